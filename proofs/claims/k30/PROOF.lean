import PyProof.Rows.All
import Wide.All
import OpenK.AllK
import Wide.FinOn
import HandS.ForMost
import HandS.Exc
import HandS.ExcOwn
import HandS.WordsExc
import HandS.TupAny
import HandS.Flow
import HandS.Wide
import HandS.Deep
import HandS.Iter
import HandS.Zip
import HandS.Conv
import HandS.SetKeys
import HandS.DictComp
import HandS.Defaults
import HandS.NoneIn
import HandS.IsInst
import KE.SortData
import HandS.TupMul
import HandS.Style
import KE.DataCmp
import HandS.TupSets
import HandS.SetFor
import KE.OsSortAny
import HandS.SetBool
import KE.GoesMore
import KE.KDictCopyH
import KE.KUnpackStar
import HandS.HeadHook3
import KE.KDictPairs
import PySem.Challenge.RW_broadword_k30_whole_lean_tags
set_option Elab.async false
set_option linter.all false
set_option maxRecDepth 100000
/-! PL1: pure readings. Values as PyData; persistent data in the abstract heap; slots; the judgement of an expression. -/
namespace PL
open PySem PySem.Spec PyProof.Rows L2

abbrev D := PyData

/-- what a step comes to: a value, an own error by its name, or nothing that is claimed -/
inductive R (α : Type) where
  | ok (a : α)
  | err (n : Str)
  | bad
def R.bind {α β : Type} (r : R α) (f : α → R β) : R β :=
  match r with
  | .ok a => f a
  | .err n => .err n
  | .bad => .bad
@[simp] theorem R.bind_ok {α β : Type} (a : α) (f : α → R β) : (R.ok a).bind f = f a := id rfl
@[simp] theorem R.bind_err {α β : Type} (n : Str) (f : α → R β) : (R.err n : R α).bind f = .err n := id rfl
@[simp] theorem R.bind_bad {α β : Type} (f : α → R β) : (R.bad : R α).bind f = .bad := id rfl
/-- within a comprehension nothing may be raised -/
def R.calm {α : Type} : R α → R α
  | .err _ => .bad
  | r => r
@[simp] theorem R.calm_ok {α : Type} (a : α) : (R.ok a).calm = .ok a := id rfl
@[simp] theorem R.calm_bad {α : Type} : (R.bad : R α).calm = .bad := id rfl

/-! ### persistent data -/
def FzL (H : Hp) (a : Addr) (xs : List V) : Prop := ∃ o, H a = some (.frz o (.lst xs))
theorem FzL.sq {K : PySem.W.Frag} {H : Hp} {a : Addr} {xs : List V} (h : FzL H a xs) : SqL K H a xs := .inl (.inr h)
/-- a text as it may stand: signs and size -/
def sOk (x : Str) : Bool := PyData.strOk x && decide (x.length ≤ sizeLine)
theorem sOk_ok {x : Str} (h : sOk x = true) : PyData.strOk x = true := (Bool.and_eq_true_iff.mp h).1
theorem sOk_len {x : Str} (h : sOk x = true) : x.length ≤ sizeLine := of_decide_eq_true (Bool.and_eq_true_iff.mp h).2
mutual
inductive Im (K : PySem.W.Frag) (H : Hp) : V → D → Prop
  | non : Im K H .non .none
  | bl (b : Bool) : Im K H (.bl b) (.bool b)
  | int (i : Int) : Im K H (.int i) (.int i)
  | str (x : Str) : sOk x = true → Im K H (.str x) (.str x)
  | lst {a : Addr} {xs : List V} {ds : List D} : FzL H a xs → ds.length ≤ sizeLine → ImAll K H xs ds → Im K H (.ref a) (.list ds)
  | tup {a : Addr} {xs : List V} {ds : List D} : H a = some (.tup xs) → ds.length ≤ sizeLine → ImAll K H xs ds → Im K H (.ref a) (.tuple ds)
  | ftup {a : Addr} {o : Obj} {xs : List V} {es ds : List D} : H a = some (.frz o (.tup xs)) → (PyData.tuple es :: ds).length ≤ sizeLine → ImAll K H xs (PyData.tuple es :: ds) → Im K H (.ref a) (.tuple (.tuple es :: ds))
inductive ImAll (K : PySem.W.Frag) (H : Hp) : List V → List D → Prop
  | nil : ImAll K H [] []
  | cons {v : V} {vs : List V} {d : D} {ds : List D} : Im K H v d → ImAll K H vs ds → ImAll K H (v :: vs) (d :: ds)
end

/-- what never changes is as it was -/
structure Pers (H H' : Hp) : Prop where
  tup : ∀ b xs, H b = some (.tup xs) → H' b = some (.tup xs)
  frz : ∀ b o u, H b = some (.frz o u) → H' b = some (.frz o u)
theorem Pers.refl (H : Hp) : Pers H H := ⟨fun _ _ h => h, fun _ _ _ h => h⟩
theorem Pers.trans {H H1 H2 : Hp} (a : Pers H H1) (b : Pers H1 H2) : Pers H H2 := ⟨fun x y h => b.tup x y (a.tup x y h), fun x y z h => b.frz x y z (a.frz x y z h)⟩
theorem Same.pers {H H' : Hp} (h : Same H H') : Pers H H' := ⟨fun b xs e => h b _ e, fun b o u e => h b _ e⟩
theorem Pers.rdT {H H' : Hp} (p : Pers H H') {a : Addr} {xs : List V} (h : Rd H a (.tup xs)) : Rd H' a (.tup xs) := by
  rcases h with h | ⟨o, h⟩
  · exact .inl (p.tup a xs h)
  · exact .inr ⟨o, p.frz a o _ h⟩
theorem Pers.sqT {K : PySem.W.Frag} {H H' : Hp} (p : Pers H H') {a : Addr} {xs : List V} (h : SqT K H a xs) : SqT K H' a xs := by
  rcases h with h | h
  · exact .inl (p.rdT h)
  · exact .inr h
theorem Pers.fzL {H H' : Hp} (p : Pers H H') {a : Addr} {xs : List V} (h : FzL H a xs) : FzL H' a xs :=
  let ⟨o, e⟩ := h; ⟨o, p.frz a o _ e⟩
section
variable {K : PySem.W.Frag} {H H' : Hp}
mutual
theorem Im.mono (p : Pers H H') : ∀ {v : V} {d : D}, Im K H v d → Im K H' v d
  | _, _, .non => .non
  | _, _, .bl b => .bl b
  | _, _, .int i => .int i
  | _, _, .str x h => .str x h
  | _, _, .lst h z a => .lst (p.fzL h) z (ImAll.mono p a)
  | _, _, .tup h z a => .tup (p.tup _ _ h) z (ImAll.mono p a)
  | _, _, .ftup h z a => .ftup (p.frz _ _ _ h) z (ImAll.mono p a)
theorem ImAll.mono (p : Pers H H') : ∀ {vs : List V} {ds : List D}, ImAll K H vs ds → ImAll K H' vs ds
  | _, _, .nil => .nil
  | _, _, .cons h a => .cons (Im.mono p h) (ImAll.mono p a)
end
theorem ImAll.length : ∀ {vs : List V} {ds : List D}, ImAll K H vs ds → vs.length = ds.length
  | _, _, .nil => rfl
  | _, _, .cons _ a => congrArg (· + 1) a.length
theorem ImAll.append : ∀ {vs ws : List V} {ds es : List D}, ImAll K H vs ds → ImAll K H ws es → ImAll K H (vs ++ ws) (ds ++ es)
  | _, _, _, _, .nil, b => b
  | _, _, _, _, .cons h a, b => .cons h (a.append b)
theorem ImAll.take : ∀ {vs : List V} {ds : List D} (n : Nat), ImAll K H vs ds → ImAll K H (vs.take n) (ds.take n)
  | _, _, 0, _ => .nil
  | _, _, _ + 1, .nil => .nil
  | _, _, n + 1, .cons h a => .cons h (a.take n)
theorem ImAll.drop : ∀ {vs : List V} {ds : List D} (n : Nat), ImAll K H vs ds → ImAll K H (vs.drop n) (ds.drop n)
  | _, _, 0, a => a
  | _, _, _ + 1, .nil => .nil
  | _, _, n + 1, .cons _ a => a.drop n
theorem ImAll.get : ∀ {vs : List V} {ds : List D} {i : Nat} {d : D}, ImAll K H vs ds → ds[i]? = some d → ∃ v, vs[i]? = some v ∧ Im K H v d
  | _, _, _, _, .nil, e => by simp at e
  | _, _, 0, _, .cons h _, e => by simp at e; subst e; exact ⟨_, rfl, h⟩
  | _, _, i + 1, _, .cons _ a, e => by
    obtain ⟨v, h1, h2⟩ := a.get (i := i) (by simpa using e)
    exact ⟨v, by simpa using h1, h2⟩
theorem ImAll.getV : ∀ {vs : List V} {ds : List D} {i : Nat} {v : V}, ImAll K H vs ds → vs[i]? = some v → ∃ d, ds[i]? = some d ∧ Im K H v d
  | _, _, _, _, .nil, e => by simp at e
  | _, _, 0, _, .cons h _, e => by simp at e; subst e; exact ⟨_, rfl, h⟩
  | _, _, i + 1, _, .cons _ a, e => by
    obtain ⟨v, h1, h2⟩ := a.getV (i := i) (by simpa using e)
    exact ⟨v, by simpa using h1, h2⟩
theorem ImAll.set : ∀ {vs : List V} {ds : List D} {v : V} {d : D} (i : Nat), ImAll K H vs ds → Im K H v d → ImAll K H (vs.set i v) (ds.set i d)
  | _, _, _, _, _, .nil, _ => .nil
  | _, _, _, _, 0, .cons _ a, h => .cons h a
  | _, _, _, _, i + 1, .cons h a, h' => .cons h (a.set i h')
theorem ImAll.eraseIdx : ∀ {vs : List V} {ds : List D} (i : Nat), ImAll K H vs ds → ImAll K H (vs.eraseIdx i) (ds.eraseIdx i)
  | _, _, _, .nil => .nil
  | _, _, 0, .cons _ a => a
  | _, _, i + 1, .cons h a => .cons h (a.eraseIdx i)
theorem ImAll.reverse {vs : List V} {ds : List D} (a : ImAll K H vs ds) : ImAll K H vs.reverse ds.reverse := by
  induction a using ImAll.rec (motive_1 := fun _ _ _ => True) with
  | nil => exact .nil
  | cons h _ _ ih => simp only [List.reverse_cons]; exact ih.append (.cons h .nil)
  | _ => trivial
theorem ImAll.one {v : V} {d : D} (h : Im K H v d) : ImAll K H [v] [d] := .cons h .nil
theorem ImAll.of_get : ∀ {vs : List V} {ds : List D}, vs.length = ds.length → (∀ (i : Nat) (v : V) (d : D), vs[i]? = some v → ds[i]? = some d → Im K H v d) → ImAll K H vs ds
  | [], [], _, _ => .nil
  | [], _ :: _, h, _ => by simp at h
  | _ :: _, [], h, _ => by simp at h
  | v :: vs, d :: ds, h, k => .cons (k 0 v d rfl rfl) (ImAll.of_get (by simpa using h) fun i v' d' e1 e2 => k (i + 1) v' d' (by simpa using e1) (by simpa using e2))
mutual
theorem Im.dp : ∀ {v : V} {d : D}, Im K H v d → Dp K H v d
  | _, _, .non => .non
  | _, _, .bl b => .bl b
  | _, _, .int i => .int i
  | _, _, .str x _ => .str x
  | _, _, .lst h _ a => .lst h.sq (ImAll.dp a)
  | _, _, .tup h _ a => .tup (SqT.of h) (ImAll.dp a)
  | _, _, .ftup h _ a => .tup (.inl (.inr ⟨_, h⟩)) (ImAll.dp a)
theorem ImAll.dp : ∀ {vs : List V} {ds : List D}, ImAll K H vs ds → DpAll K H vs ds
  | _, _, .nil => .nil
  | _, _, .cons h a => .cons (Im.dp h) (ImAll.dp a)
end
mutual
theorem Im.can : ∀ {v : V} {d : D}, Im K H v d → d.canLay0 = true
  | _, _, .non => by simp [PyData.canLay0]
  | _, _, .bl b => by simp [PyData.canLay0]
  | _, _, .int i => by simp [PyData.canLay0]
  | _, _, .str x h => by simpa [PyData.canLay0] using sOk_ok h
  | _, _, .lst h _ a => by simpa [PyData.canLay0] using ImAll.can a
  | _, _, .tup h _ a => by simpa [PyData.canLay0] using ImAll.can a
  | _, _, .ftup h _ a => by simpa [PyData.canLay0] using ImAll.can a
theorem ImAll.can : ∀ {vs : List V} {ds : List D}, ImAll K H vs ds → PyData.canLayAll0 ds = true
  | _, _, .nil => by simp [PyData.canLayAll0]
  | _, _, .cons h a => by simp [PyData.canLayAll0, Im.can h, ImAll.can a]
end

/-! keys of dicts -/
def keyD : Key → D
  | .inl i => .int i
  | .inr x => .str x
def kOk : Key → Prop
  | .inl _ => True
  | .inr x => sOk x = true
theorem kV_im {k : Key} (h : kOk k) : Im K H (kV k) (keyD k) := by
  cases k with
  | inl i => exact .int i
  | inr x => exact .str x h
theorem keyD_inj {a b : Key} (h : keyD a = keyD b) : a = b := by
  cases a <;> cases b <;> simp_all [keyD]
theorem kVs_im : ∀ {ks : List Key}, (∀ k ∈ ks, kOk k) → ImAll K H (ks.map kV) (ks.map keyD)
  | [], _ => .nil
  | k :: ks, h => .cons (kV_im (h k (by simp))) (kVs_im fun k' hk => h k' (by simp [hk]))

/-- a tuple of the written part -/
inductive Wt (K : PySem.W.Frag) (H : Hp) : V → D → Prop
  | mk {a : Addr} {o : Obj} {its : Array Value} {n : Nat} {xs : List V} {ds : List D} : K.lookup a = some o → o.cls = .type "tuple" → o.data = .seq its n → its.size ≤ sizeLine → Vals xs its.toList → ImAll K H xs ds → ds.length ≤ sizeLine → Wt K H (.ref a) (.tuple ds)
theorem Wt.mono (p : Pers H H') {v : V} {d : D} (h : Wt K H v d) : Wt K H' v d := by
  cases h with
  | mk h1 h2 h3 h4 h5 h6 h7 => exact .mk h1 h2 h3 h4 h5 (h6.mono p) h7
/-- an own list or dict, to be written; a dict keyed by tuples bears a mark ahead -/
inductive Own (K : PySem.W.Frag) (H : Hp) : Addr → D → Prop
  | lst {a : Addr} {xs : List V} {ds : List D} : H a = some (.lst xs) → ds.length ≤ sizeLine → ImAll K H xs ds → Own K H a (.list ds)
  | dK {a : Addr} {kvs : List (Key × V)} {ds : List D} : H a = some (.dK kvs) → (∀ p ∈ kvs, kOk p.1) → ImAll K H (kvs.map (·.2)) ds → Own K H a (.dict ((kvs.map fun p => keyD p.1).zip ds))
  | dT {a : Addr} {kvs : List (List Key × V)} {ds : List D} : H a = some (.dT kvs) → (∀ p ∈ kvs, ∀ k ∈ p.1, kOk k) → ImAll K H (kvs.map (·.2)) ds → Own K H a (.dict ((.none, .none) :: (kvs.map fun p => .tuple (p.1.map keyD)).zip ds))
/-- a list that is kept, or the written part's own -/
def KpL (K : PySem.W.Frag) (H : Hp) (a : Addr) (xs : List V) : Prop := FzL H a xs ∨ ∃ (o : Obj) (its : Array Value) (n : Nat), K.lookup a = some o ∧ o.cls = .type "list" ∧ o.dict = none ∧ o.data = .seq its n ∧ its.size ≤ sizeLine ∧ Vals xs its.toList
theorem KpL.sq {a : Addr} {xs : List V} (h : KpL K H a xs) : SqL K H a xs := h.elim (·.sq) .inr
theorem KpL.mono {a : Addr} {xs : List V} (p : Pers H H') (h : KpL K H a xs) : KpL K H' a xs := h.elim (fun h => .inl (p.fzL h)) .inr
/-- a tuple of four, the last a tuple that is known to have no attributes (or starts with no tuple) -/
def NoAt (H : Hp) (v : V) : D → Prop
  | .tuple (.tuple _ :: _) => ∃ (a : Addr) (o : Obj) (xs : List V), v = .ref a ∧ H a = some (.frz o (.tup xs)) ∧ o.dict = none
  | _ => True
theorem NoAt.mono (p : Pers H H') {v : V} {d : D} (h : NoAt H v d) : NoAt H' v d := by
  unfold NoAt at h ⊢
  split at h
  · obtain ⟨a, o, xs, e, q, n⟩ := h
    exact ⟨a, o, xs, e, p.frz _ _ _ q, n⟩
  · trivial
/-- a dict that is kept as it is; the law's script; a book -/
inductive Fd (K : PySem.W.Frag) (H : Hp) : V → D → Prop
  | lst {a : Addr} {xs : List V} {ds : List D} : KpL K H a xs → ds.length ≤ sizeLine → ImAll K H xs ds → Fd K H (.ref a) (.list ds)
  | dK {a : Addr} {o : Obj} {kvs : List (Key × V)} {ds : List D} : H a = some (.frz o (.dK kvs)) → (∀ p ∈ kvs, kOk p.1) → ImAll K H (kvs.map (·.2)) ds → Fd K H (.ref a) (.dict ((kvs.map fun p => keyD p.1).zip ds))
  | dT {a : Addr} {o : Obj} {kvs : List (List Key × V)} {ds : List D} : H a = some (.frz o (.dT kvs)) → (∀ p ∈ kvs, ∀ k ∈ p.1, kOk k) → ImAll K H (kvs.map (·.2)) ds → Fd K H (.ref a) (.dict ((.none, .none) :: (kvs.map fun p => .tuple (p.1.map keyD)).zip ds))
  | bk {a : Addr} {x0 x1 x2 x3 : V} {d0 d1 d2 d3 : D} : H a = some (.tup [x0, x1, x2, x3]) → ImAll K H [x0, x1, x2, x3] [d0, d1, d2, d3] → NoAt H x3 d3 → Fd K H (.ref a) (.tuple [d0, d1, d2, d3])
theorem Fd.mono (p : Pers H H') {v : V} {d : D} (h : Fd K H v d) : Fd K H' v d := by
  cases h with
  | lst e z a => exact .lst (e.mono p) z (a.mono p)
  | dK e k a => exact .dK (p.frz _ _ _ e) k (a.mono p)
  | dT e k a => exact .dT (p.frz _ _ _ e) k (a.mono p)
  | bk e a n => exact .bk (p.tup _ _ e) (a.mono p) (n.mono p)
theorem Own.mono (p : Same H H') {v : Addr} {d : D} (h : Own K H v d) : Own K H' v d := by
  cases h with
  | lst e z a => exact .lst (p _ _ e) z (a.mono (Same.pers p))
  | dK e k a => exact .dK (p _ _ e) k (a.mono (Same.pers p))
  | dT e k a => exact .dT (p _ _ e) k (a.mono (Same.pers p))
theorem Own.keep (p : Pers H H') {v : Addr} {d : D} (e' : H' v = H v) (h : Own K H v d) : Own K H' v d := by
  cases h with
  | lst e z a => exact .lst (e'.trans e) z (a.mono p)
  | dK e k a => exact .dK (e'.trans e) k (a.mono p)
  | dT e k a => exact .dT (e'.trans e) k (a.mono p)
theorem Own.there {v : Addr} {d : D} (h : Own K H v d) : ∃ o, H v = some o := by
  cases h with
  | lst e z a => exact ⟨_, e⟩
  | dK e k a => exact ⟨_, e⟩
  | dT e k a => exact ⟨_, e⟩
theorem Own.mut {v : Addr} {d : D} (h : Own K H v d) : Mut (H v) := by
  cases h with
  | lst e z a => rw [e]; trivial
  | dK e k a => rw [e]; trivial
  | dT e k a => rw [e]; trivial
theorem pers_upd {a : Addr} {o : HO} (m : Mut (H a)) : Pers H (upd H a o) :=
  ⟨fun b xs e => by rw [upd_ne]; exact e
                    rintro rfl; rw [e] at m; exact m,
   fun b ob u e => by rw [upd_ne]; exact e
                      rintro rfl; rw [e] at m; exact m⟩
theorem same_upd {p : Addr} {o : HO} (h : H p = none) : Same H (upd H p o) := fun b x e => by
  rw [upd_ne (ne_of_none e h)]
  exact e
end

/-! ### what an expression hands back -/
abbrev Res := PySem.W.Frag → Hp → Hp → V → D → Prop
/-- persistent -/
def rI : Res := fun K _ H' v d => Im K H' v d
/-- a kept dict -/
def rF : Res := fun K _ H' v d => Fd K H' v d
/-- a new list -/
def rN : Res := fun K H H' v d => ∃ a ds, v = .ref a ∧ d = .list ds ∧ H a = none ∧ Own K H' a d
/-- a new dict -/
def rM : Res := fun K H H' v d => ∃ a kvs, v = .ref a ∧ d = .dict kvs ∧ H a = none ∧ Own K H' a d
/-- a new list, or persistent -/
def rQ : Res := fun K H H' v d => Im K H' v d ∨ ∃ a ds, v = .ref a ∧ d = .list ds ∧ H a = none ∧ Own K H' a d
/-- anything that can be read -/
def rD : Res := fun K _ H' v d => Im K H' v d ∨ Fd K H' v d ∨ (∃ a, v = .ref a ∧ Own K H' a d) ∨ Wt K H' v d
/-- persistent, or a written tuple -/
def rP : Res := fun K _ H' v d => Im K H' v d ∨ Wt K H' v d
/-- data that is no written tuple and no kept dict -/
def rE : Res := fun K _ H' v d => Im K H' v d ∨ ∃ a, v = .ref a ∧ Own K H' a d
structure Res.Le (ρ ρ' : Res) : Prop where
  le : ∀ K H H' v d, ρ K H H' v d → ρ' K H H' v d
theorem le_rfl {ρ : Res} : Res.Le ρ ρ := ⟨fun _ _ _ _ _ h => h⟩
theorem le_IQ : Res.Le rI rQ := ⟨fun _ _ _ _ _ h => .inl h⟩
theorem le_ID : Res.Le rI rD := ⟨fun _ _ _ _ _ h => .inl h⟩
theorem le_FD : Res.Le rF rD := ⟨fun _ _ _ _ _ h => .inr (.inl h)⟩
theorem le_ND : Res.Le rN rD := ⟨fun _ _ _ _ _ ⟨a, _, e, _, _, o⟩ => .inr (.inr (.inl ⟨a, e, o⟩))⟩
theorem le_MD : Res.Le rM rD := ⟨fun _ _ _ _ _ ⟨a, _, e, _, _, o⟩ => .inr (.inr (.inl ⟨a, e, o⟩))⟩
theorem le_NQ : Res.Le rN rQ := ⟨fun _ _ _ _ _ h => .inr h⟩
theorem le_IP : Res.Le rI rP := ⟨fun _ _ _ _ _ h => .inl h⟩
theorem le_PD : Res.Le rP rD := ⟨fun _ _ _ _ _ h => h.elim .inl fun h => .inr (.inr (.inr h))⟩
theorem le_QD : Res.Le rQ rD := ⟨fun _ _ _ _ _ h => by
  rcases h with h | ⟨a, ds, e, _, _, o⟩
  · exact .inl h
  · exact .inr (.inr (.inl ⟨a, e, o⟩))⟩
theorem le_IE : Res.Le rI rE := ⟨fun _ _ _ _ _ h => .inl h⟩
theorem le_NE : Res.Le rN rE := ⟨fun _ _ _ _ _ ⟨a, _, e, _, _, o⟩ => .inr ⟨a, e, o⟩⟩
theorem le_ME : Res.Le rM rE := ⟨fun _ _ _ _ _ ⟨a, _, e, _, _, o⟩ => .inr ⟨a, e, o⟩⟩
theorem le_ED : Res.Le rE rD := ⟨fun _ _ _ _ _ h => h.elim .inl fun h => .inr (.inr (.inl h))⟩
theorem le_QE : Res.Le rQ rE := ⟨fun _ _ _ _ _ h => by
  rcases h with h | ⟨a, ds, e, _, _, o⟩
  · exact .inl h
  · exact .inr ⟨a, e, o⟩⟩
/-- a reading that stands while nothing tracked changes -/
structure Res.Stay (ρ : Res) : Prop where
  to : ∀ K H0 H1 H H' v d, Same H H' → ρ K H0 H v d → ρ K H1 H' v d
theorem stay_E : Res.Stay rE := ⟨fun _ _ _ _ _ _ _ p h => h.elim (fun h => .inl (h.mono (Same.pers p))) fun ⟨a, e, o⟩ => .inr ⟨a, e, o.mono p⟩⟩
theorem stay_I : Res.Stay rI := ⟨fun _ _ _ _ _ _ _ p h => h.mono (Same.pers p)⟩
theorem rD.same {K : PySem.W.Frag} {H0 H1 H H' : Hp} (p : Same H H') {v : V} {d : D} (h : rD K H0 H v d) : rD K H1 H' v d := by
  rcases h with h | h | ⟨a, e, o⟩ | h
  · exact .inl (h.mono (Same.pers p))
  · exact .inr (.inl (h.mono (Same.pers p)))
  · exact .inr (.inr (.inl ⟨a, e, o.mono p⟩))
  · exact .inr (.inr (.inr (h.mono (Same.pers p))))

theorem stay_D : Res.Stay rD := ⟨fun _ _ _ _ _ _ _ p h => rD.same p h⟩
/-! ### slots -/
inductive Kd where
  | imm | own | dct
  deriving DecidableEq
abbrev Env := List (Option D)
abbrev Kds := List Kd
def kd (κ : Kds) (i : Nat) : Kd := κ.getD i .imm

structure Rep (K : PySem.W.Frag) (H0 H : Hp) (κ : Kds) (σ : L2.St) (τ : Env) : Prop where
  len : σ.length = τ.length
  imm : ∀ i d, τ[i]? = some (some d) → kd κ i = .imm → ∃ v, σ[i]? = some (some v) ∧ Im K H v d
  dct : ∀ i d, τ[i]? = some (some d) → kd κ i = .dct → ∃ v, σ[i]? = some (some v) ∧ Fd K H v d
  own : ∀ i d, τ[i]? = some (some d) → kd κ i = .own → ∃ a, σ[i]? = some (some (.ref a)) ∧ H0 a = none ∧ Own K H a d
  sep : ∀ i j d e a, i ≠ j → τ[i]? = some (some d) → τ[j]? = some (some e) → kd κ i = .own → kd κ j = .own → σ[i]? = some (some (.ref a)) → σ[j]? ≠ some (some (.ref a))
  same : Same H0 H
section
variable {K : PySem.W.Frag} {H0 H H' : Hp} {κ : Kds} {σ : L2.St} {τ : Env}
theorem Rep.to (r : Rep K H0 H κ σ τ) (p : Same H H') : Rep K H0 H' κ σ τ :=
  ⟨r.len, fun i d e k => let ⟨v, h1, h2⟩ := r.imm i d e k; ⟨v, h1, h2.mono (Same.pers p)⟩,
   fun i d e k => let ⟨v, h1, h2⟩ := r.dct i d e k; ⟨v, h1, h2.mono (Same.pers p)⟩,
   fun i d e k => let ⟨v, h1, h2, h3⟩ := r.own i d e k; ⟨v, h1, h2, h3.mono p⟩, r.sep, r.same.trans p⟩
/-- what a slot holds can be read -/
theorem Rep.get (r : Rep K H0 H κ σ τ) {i : Nat} {d : D} (e : τ[i]? = some (some d)) : ∃ v, σ[i]? = some (some v) ∧ rD K H H v d := by
  cases k : kd κ i with
  | imm => obtain ⟨v, h1, h2⟩ := r.imm i d e k; exact ⟨v, h1, .inl h2⟩
  | dct => obtain ⟨v, h1, h2⟩ := r.dct i d e k; exact ⟨v, h1, .inr (.inl h2)⟩
  | own => obtain ⟨a, h1, _, h2⟩ := r.own i d e k; exact ⟨_, h1, .inr (.inr (.inl ⟨a, rfl, h2⟩))⟩
theorem kd_set {κ : Kds} {i j : Nat} {k : Kd} (hi : i < κ.length) : kd (κ.set i k) j = if i = j then k else kd κ j := by
  unfold kd
  by_cases h : i = j
  · subst h; simp [hi]
  · rw [if_neg h]; simp [List.getD_eq_getElem?_getD, List.getElem?_set_ne h]
theorem env_set {α : Type} {τ : List (Option α)} {i j : Nat} {d : α} {o : Option α} (e : (τ.set i o)[j]? = some (some d)) : (j = i ∧ o = some d ∧ i < τ.length) ∨ (j ≠ i ∧ τ[j]? = some (some d)) := by
  by_cases h : j = i
  · subst h
    by_cases hl : j < τ.length
    · rw [List.getElem?_set_self hl] at e; cases e; exact .inl ⟨rfl, rfl, hl⟩
    · rw [List.getElem?_eq_none (by simpa using hl)] at e; cases e
  · rw [List.getElem?_set_ne (Ne.symm h)] at e; exact .inr ⟨h, e⟩
/-- a slot is stored: persistent data -/
theorem Rep.setI (r : Rep K H0 H κ σ τ) {i : Nat} {v : V} {d : D} (hk : i < κ.length) (h : Im K H v d) : Rep K H0 H (κ.set i .imm) (σ.set i (some v)) (τ.set i (some d)) := by
  have ls := r.len
  refine ⟨by simpa using ls, fun j d' e k => ?_, fun j d' e k => ?_, fun j d' e k => ?_, fun j l d' e' a hjl e1 e2 k1 k2 s1 s2 => ?_, r.same⟩
  · rcases env_set e with ⟨rfl, h1, hl⟩ | ⟨hne, h1⟩
    · cases h1; exact ⟨v, by rw [List.getElem?_set_self (by omega)], h⟩
    · rw [kd_set hk, if_neg (Ne.symm hne)] at k
      obtain ⟨w, w1, w2⟩ := r.imm j d' h1 k
      exact ⟨w, by rw [List.getElem?_set_ne (Ne.symm hne)]; exact w1, w2⟩
  · rcases env_set e with ⟨rfl, h1, hl⟩ | ⟨hne, h1⟩
    · rw [kd_set hk, if_pos rfl] at k; cases k
    · rw [kd_set hk, if_neg (Ne.symm hne)] at k
      obtain ⟨w, w1, w2⟩ := r.dct j d' h1 k
      exact ⟨w, by rw [List.getElem?_set_ne (Ne.symm hne)]; exact w1, w2⟩
  · rcases env_set e with ⟨rfl, h1, hl⟩ | ⟨hne, h1⟩
    · rw [kd_set hk, if_pos rfl] at k; cases k
    · rw [kd_set hk, if_neg (Ne.symm hne)] at k
      obtain ⟨w, w1, w2⟩ := r.own j d' h1 k
      exact ⟨w, by rw [List.getElem?_set_ne (Ne.symm hne)]; exact w1, w2⟩
  · rw [kd_set hk] at k1 k2
    by_cases hj : i = j
    · rw [if_pos hj] at k1; cases k1
    · by_cases hl : i = l
      · rw [if_pos hl] at k2; cases k2
      · rw [if_neg hj] at k1; rw [if_neg hl] at k2
        rw [List.getElem?_set_ne hj] at e1 s1; rw [List.getElem?_set_ne hl] at e2 s2
        exact r.sep j l d' e' a hjl e1 e2 k1 k2 s1 s2
/-- .. a kept dict -/
theorem Rep.setF (r : Rep K H0 H κ σ τ) {i : Nat} {v : V} {d : D} (hk : i < κ.length) (h : Fd K H v d) : Rep K H0 H (κ.set i .dct) (σ.set i (some v)) (τ.set i (some d)) := by
  have ls := r.len
  refine ⟨by simpa using ls, fun j d' e k => ?_, fun j d' e k => ?_, fun j d' e k => ?_, fun j l d' e' a hjl e1 e2 k1 k2 s1 s2 => ?_, r.same⟩
  · rcases env_set e with ⟨rfl, h1, hl⟩ | ⟨hne, h1⟩
    · rw [kd_set hk, if_pos rfl] at k; cases k
    · rw [kd_set hk, if_neg (Ne.symm hne)] at k
      obtain ⟨w, w1, w2⟩ := r.imm j d' h1 k
      exact ⟨w, by rw [List.getElem?_set_ne (Ne.symm hne)]; exact w1, w2⟩
  · rcases env_set e with ⟨rfl, h1, hl⟩ | ⟨hne, h1⟩
    · cases h1; exact ⟨v, by rw [List.getElem?_set_self (by omega)], h⟩
    · rw [kd_set hk, if_neg (Ne.symm hne)] at k
      obtain ⟨w, w1, w2⟩ := r.dct j d' h1 k
      exact ⟨w, by rw [List.getElem?_set_ne (Ne.symm hne)]; exact w1, w2⟩
  · rcases env_set e with ⟨rfl, h1, hl⟩ | ⟨hne, h1⟩
    · rw [kd_set hk, if_pos rfl] at k; cases k
    · rw [kd_set hk, if_neg (Ne.symm hne)] at k
      obtain ⟨w, w1, w2⟩ := r.own j d' h1 k
      exact ⟨w, by rw [List.getElem?_set_ne (Ne.symm hne)]; exact w1, w2⟩
  · rw [kd_set hk] at k1 k2
    by_cases hj : i = j
    · rw [if_pos hj] at k1; cases k1
    · by_cases hl : i = l
      · rw [if_pos hl] at k2; cases k2
      · rw [if_neg hj] at k1; rw [if_neg hl] at k2
        rw [List.getElem?_set_ne hj] at e1 s1; rw [List.getElem?_set_ne hl] at e2 s2
        exact r.sep j l d' e' a hjl e1 e2 k1 k2 s1 s2
/-- .. a new own one (Hb: the heap as it was ahead of its making) -/
theorem Rep.setN {Hb : Hp} (r : Rep K H0 Hb κ σ τ) (p : Same Hb H) {i : Nat} {a : Addr} {d : D} (hk : i < κ.length) (hn : Hb a = none) (h : Own K H a d) :
    Rep K H0 H (κ.set i .own) (σ.set i (some (.ref a))) (τ.set i (some d)) := by
  have r' := r.to p
  have ls := r.len
  have fresh : ∀ j d', τ[j]? = some (some d') → kd κ j = .own → σ[j]? ≠ some (some (.ref a)) := fun j d' e k z => by
    obtain ⟨b, b1, _, b3⟩ := r.own j d' e k
    rw [z] at b1; cases b1
    obtain ⟨o, ho⟩ := b3.there
    rw [hn] at ho; cases ho
  refine ⟨by simpa using ls, fun j d' e k => ?_, fun j d' e k => ?_, fun j d' e k => ?_, fun j l d' e' b hjl e1 e2 k1 k2 s1 s2 => ?_, r'.same⟩
  · rcases env_set e with ⟨rfl, h1, hl⟩ | ⟨hne, h1⟩
    · rw [kd_set hk, if_pos rfl] at k; cases k
    · rw [kd_set hk, if_neg (Ne.symm hne)] at k
      obtain ⟨w, w1, w2⟩ := r'.imm j d' h1 k
      exact ⟨w, by rw [List.getElem?_set_ne (Ne.symm hne)]; exact w1, w2⟩
  · rcases env_set e with ⟨rfl, h1, hl⟩ | ⟨hne, h1⟩
    · rw [kd_set hk, if_pos rfl] at k; cases k
    · rw [kd_set hk, if_neg (Ne.symm hne)] at k
      obtain ⟨w, w1, w2⟩ := r'.dct j d' h1 k
      exact ⟨w, by rw [List.getElem?_set_ne (Ne.symm hne)]; exact w1, w2⟩
  · rcases env_set e with ⟨rfl, h1, hl⟩ | ⟨hne, h1⟩
    · cases h1; exact ⟨a, by rw [List.getElem?_set_self (by omega)], r.same.free hn, h⟩
    · rw [kd_set hk, if_neg (Ne.symm hne)] at k
      obtain ⟨w, w1, w2⟩ := r'.own j d' h1 k
      exact ⟨w, by rw [List.getElem?_set_ne (Ne.symm hne)]; exact w1, w2⟩
  · rw [kd_set hk] at k1 k2
    by_cases hj : i = j
    · subst hj
      rw [List.getElem?_set_ne hjl] at e2 s2
      rw [if_neg hjl] at k2
      by_cases hl : i < σ.length
      · rw [List.getElem?_set_self hl] at s1; cases s1
        exact fresh l e' e2 k2 s2
      · rw [List.getElem?_eq_none (by simpa using hl)] at s1; cases s1
    · rw [List.getElem?_set_ne hj] at e1 s1
      rw [if_neg hj] at k1
      by_cases hl : i = l
      · subst hl
        by_cases hs : i < σ.length
        · rw [List.getElem?_set_self hs] at s2; cases s2
          exact fresh j d' e1 k1 s1
        · rw [List.getElem?_eq_none (by simpa using hs)] at s2; cases s2
      · rw [List.getElem?_set_ne hl] at e2 s2
        rw [if_neg hl] at k2
        exact r.sep j l d' e' b hjl e1 e2 k1 k2 s1 s2
/-- a slot is forgotten; its kind is free then -/
theorem Rep.forget (r : Rep K H0 H κ σ τ) (i : Nat) (k : Kd) : Rep K H0 H (κ.set i k) σ (τ.set i none) := by
  have ks : ∀ j, j ≠ i → kd (κ.set i k) j = kd κ j := fun j hj => by
    unfold kd; simp [List.getD_eq_getElem?_getD, List.getElem?_set_ne (Ne.symm hj)]
  refine ⟨by simpa using r.len, fun j d' e k' => ?_, fun j d' e k' => ?_, fun j d' e k' => ?_, fun j l d' e' a hjl e1 e2 k1 k2 => ?_, r.same⟩
  · rcases env_set e with ⟨rfl, h1, hl⟩ | ⟨hne, h1⟩
    · cases h1
    · rw [ks j hne] at k'; exact r.imm j d' h1 k'
  · rcases env_set e with ⟨rfl, h1, hl⟩ | ⟨hne, h1⟩
    · cases h1
    · rw [ks j hne] at k'; exact r.dct j d' h1 k'
  · rcases env_set e with ⟨rfl, h1, hl⟩ | ⟨hne, h1⟩
    · cases h1
    · rw [ks j hne] at k'; exact r.own j d' h1 k'
  · rcases env_set e1 with ⟨_, h1, _⟩ | ⟨hj, h1⟩
    · cases h1
    · rcases env_set e2 with ⟨_, h2, _⟩ | ⟨hl, h2⟩
      · cases h2
      · rw [ks j hj] at k1; rw [ks l hl] at k2
        exact r.sep j l d' e' a hjl h1 h2 k1 k2
/-- the own one in slot i is written -/
theorem Rep.write (r : Rep K H0 H κ σ τ) {i : Nat} {a : Addr} {d : D} {o : HO} {d' : D} (e : τ[i]? = some (some d)) (k : kd κ i = .own) (hs : σ[i]? = some (some (.ref a))) (h : Own K (upd H a o) a d') :
    Rep K H0 (upd H a o) κ σ (τ.set i (some d')) := by
  obtain ⟨b, b1, b2, b3⟩ := r.own i d e k
  rw [hs] at b1; cases b1
  have p : Pers H (upd H a o) := pers_upd b3.mut
  have hi : i < τ.length := (List.getElem?_eq_some_iff.mp e).1
  refine ⟨by simpa using r.len, fun j d2 e2 k2 => ?_, fun j d2 e2 k2 => ?_, fun j d2 e2 k2 => ?_, fun j l d2 e' c hjl e1 e2 k1 k2 s1 s2 => ?_, fun c oc hc => ?_⟩
  · rcases env_set e2 with ⟨rfl, h1, hl⟩ | ⟨hne, h1⟩
    · rw [k] at k2; cases k2
    · obtain ⟨w, w1, w2⟩ := r.imm j d2 h1 k2; exact ⟨w, w1, w2.mono p⟩
  · rcases env_set e2 with ⟨rfl, h1, hl⟩ | ⟨hne, h1⟩
    · rw [k] at k2; cases k2
    · obtain ⟨w, w1, w2⟩ := r.dct j d2 h1 k2; exact ⟨w, w1, w2.mono p⟩
  · rcases env_set e2 with ⟨rfl, h1, hl⟩ | ⟨hne, h1⟩
    · cases h1; exact ⟨a, hs, b2, h⟩
    · obtain ⟨w, w1, w2, w3⟩ := r.own j d2 h1 k2
      have hwa : w ≠ a := fun z => by subst z; exact r.sep j i d2 d w hne h1 e k2 k w1 hs
      exact ⟨w, w1, w2, w3.keep p (upd_ne hwa)⟩
  · have e1' : ∃ x, τ[j]? = some (some x) := by
      rcases env_set e1 with ⟨rfl, _, _⟩ | ⟨_, h1⟩
      · exact ⟨_, e⟩
      · exact ⟨_, h1⟩
    have e2' : ∃ x, τ[l]? = some (some x) := by
      rcases env_set e2 with ⟨rfl, _, _⟩ | ⟨_, h1⟩
      · exact ⟨_, e⟩
      · exact ⟨_, h1⟩
    obtain ⟨_, q1⟩ := e1'
    obtain ⟨_, q2⟩ := e2'
    exact r.sep j l _ _ c hjl q1 q2 k1 k2 s1 s2
  · have hca : c ≠ a := fun z => by subst z; rw [b2] at hc; cases hc
    rw [upd_ne hca]; exact r.same c oc hc
end
end PL
set_option Elab.async false
set_option linter.all false
set_option maxRecDepth 100000
/-! PL2: the judgement DE of an expression; names, constants, operators. -/
namespace PL
open PySem PySem.Spec PyProof.Rows L2

/-- what is wanted of a step's outcome -/
def PostA {α : Type} (mg : Str → Option Value) (W : XK) (H : Hp) (r : R α) (A : α → Prop) : Prop :=
  match r with
  | .ok a => A a
  | .err n => ∀ C H', mg n = some (Value.ref C) → Same H H' → W (.ref C) none H'
  | .bad => False
section
variable {α β : Type} {mg : Str → Option Value} {W : XK} {H H' : Hp}
theorem PostA.bind {r : R α} {k : α → R β} {A : β → Prop} (h : PostA mg W H (r.bind k) A) : PostA mg W H r fun a => PostA mg W H (k a) A := by
  cases r with
  | ok a => exact h
  | err n => exact h
  | bad => exact h
theorem PostA.imp {r : R α} {A B : α → Prop} (h : PostA mg W H r A) (i : ∀ a, A a → B a) : PostA mg W H r B := by
  cases r with
  | ok a => exact i a h
  | err n => exact h
  | bad => exact h
theorem PostA.imp' {r : R α} {A B : α → Prop} (h : PostA mg W H r A) (i : ∀ a, r = .ok a → A a → B a) : PostA mg W H r B := by
  cases r with
  | ok a => exact i a rfl h
  | err n => exact h
  | bad => exact h
theorem PostA.to {r : R α} {A : α → Prop} (h : PostA mg W H r A) (p : Same H H') : PostA mg W H' r A := by
  cases r with
  | ok a => exact h
  | err n => exact fun C H2 e s => h C H2 e (p.trans s)
  | bad => exact h
theorem PostA.calm {r : R α} {A : α → Prop} (h : PostA mg W H r.calm A) : PostA mg E0 H r A := by
  cases r with
  | ok a => exact h
  | err n => exact h.elim
  | bad => exact h
end
abbrev Post (K : PySem.W.Frag) (mg : Str → Option Value) (W : XK) (ρ : Res) (H : Hp) (Q : VK) (r : R D) : Prop := PostA mg W H r fun d => ∀ v H', Same H H' → ρ K H H' v d → Q v H'
/-- a later start is as good -/
structure Res.Good (ρ : Res) : Prop where
  anti : ∀ K H H1 H' v d, Same H H1 → ρ K H1 H' v d → ρ K H H' v d
theorem good_I : Res.Good rI := ⟨fun _ _ _ _ _ _ _ h => h⟩
theorem good_F : Res.Good rF := ⟨fun _ _ _ _ _ _ _ h => h⟩
theorem good_N : Res.Good rN := ⟨fun _ _ _ _ _ _ p ⟨a, ds, e, e2, n, o⟩ => ⟨a, ds, e, e2, p.free n, o⟩⟩
theorem good_M : Res.Good rM := ⟨fun _ _ _ _ _ _ p ⟨a, ds, e, e2, n, o⟩ => ⟨a, ds, e, e2, p.free n, o⟩⟩
theorem good_Q : Res.Good rQ := ⟨fun _ _ _ _ _ _ p h => by
  rcases h with h | ⟨a, ds, e, e2, n, o⟩
  · exact .inl h
  · exact .inr ⟨a, ds, e, e2, p.free n, o⟩⟩
theorem good_D : Res.Good rD := ⟨fun _ _ _ _ _ _ _ h => h⟩
theorem good_P : Res.Good rP := ⟨fun _ _ _ _ _ _ _ h => h⟩
theorem Post.to {K : PySem.W.Frag} {mg : Str → Option Value} {W : XK} {ρ : Res} {H H' : Hp} {Q : VK} {r : R D} (g : ρ.Good) (h : Post K mg W ρ H Q r) (p : Same H H') : Post K mg W ρ H' Q r :=
  PostA.imp (PostA.to h p) fun d k v H2 s r' => k v H2 (p.trans s) (g.anti _ _ _ _ _ _ p r')

def tD (K : PySem.W.Frag) (mg : Str → Option Value) (H0 : Hp) (W : XK) (κ : Kds) (ρ : Res) (f : Env → R D) : TE := fun σ H Q => ∃ τ, Rep K H0 H κ σ τ ∧ Post K mg W ρ H Q (f τ)
/-- an expression's walk comes to what f says -/
structure DE (X : Cx) (H0 : Hp) (W : XK) (κ : Kds) (ρ : Res) (e : Expr) (f : Env → R D) : Prop where
  pe : PE X e (tD X.K X.mg H0 W κ ρ f)

theorem _root_.L2.PE.cons {X : Cx} {e : Expr} {t t' : TE} (h : PE X e t) (i : ∀ σ H Q, t' σ H Q → t σ H Q) : PE X e t' :=
  ⟨fun pins s σ H Q I z => h.run pins s σ H Q I (i σ H Q z)⟩
theorem same_put {H H1 : Hp} {a : Addr} {o : HO} (s : Same H H1) (n : H a = none) : Same H (upd H1 a o) := fun b x e => by
  rw [upd_ne (ne_of_none e n)]; exact s b x e
section
variable {X : Cx} {H0 : Hp} {W : XK} {κ : Kds} {ρ ρ' : Res} {e a b : Expr} {f fa fb : Env → R D} {pos : Pos}
theorem DE.le (h : DE X H0 W κ ρ e f) (l : Res.Le ρ ρ') : DE X H0 W κ ρ' e f :=
  ⟨h.pe.cons fun σ H Q ⟨τ, r, p⟩ => ⟨τ, r, PostA.imp p fun d k v H' s q => k v H' s (l.le _ _ _ _ _ q)⟩⟩
/-- a new list is kept as it is -/
theorem DE.fz (h : DE X H0 W κ rQ e f) : DE X H0 W κ rI e f := ⟨⟨fun pins s σ H Q I ⟨τ, r, p⟩ => by
  refine thn (h.pe.run pins s σ H (fun v H1 => Im X.K H1 v (match f τ with | .ok d => d | _ => .none) ∧ Q v H1 ∨
    ∃ a d xs ds, v = .ref a ∧ H a = none ∧ H1 a = some (.lst xs) ∧ ds.length ≤ sizeLine ∧ ImAll X.K H1 xs ds ∧ f τ = .ok d ∧ d = .list ds ∧ Same H H1) I ⟨τ, r, ?_⟩) fun u s1 ⟨v, H1, I1, rv, q⟩ => ?_
  · refine PostA.imp' p fun d e k v H1 s1 q => ?_
    rcases q with q | ⟨a, ds, e1, e2, n, o⟩
    · exact .inl ⟨by rw [e]; exact q, k v H1 s1 q⟩
    · subst e2
      cases o with
      | lst h1 z h2 => exact .inr ⟨a, _, _, _, e1, n, h1, z, h2, e, rfl, s1⟩
  · rcases q with ⟨_, q⟩ | ⟨a, d, xs, ds, rfl, n, h1, z, h2, e, rfl, s1⟩
    · exact ⟨v, H1, I1, rv, q⟩
    · obtain ⟨o, I2⟩ := I1.lock h1 trivial
      refine ⟨.ref a, _, I2, rv, ?_⟩
      unfold Post PostA at p
      rw [e] at p
      have pu : Pers H1 (upd H1 a (.frz o (.lst xs))) := pers_upd (by rw [h1]; trivial)
      exact p (.ref a) _ (same_put s1 n) (.lst ⟨o, upd_same⟩ z (h2.mono pu))⟩⟩
/-- a new dict is kept as it is -/
theorem DE.fzD (h : DE X H0 W κ rM e f) : DE X H0 W κ rF e f := ⟨⟨fun pins s σ H Q I ⟨τ, r, p⟩ => by
  refine thn (h.pe.run pins s σ H (fun v H1 => ∃ a d, v = .ref a ∧ H a = none ∧ (∃ kvs, d = .dict kvs) ∧ Own X.K H1 a d ∧ f τ = .ok d ∧ Same H H1) I ⟨τ, r, PostA.imp' p fun d e k v H1 s1 q => ?_⟩) fun u s1 ⟨v, H1, I1, rv, q⟩ => ?_
  · obtain ⟨a, kvs, e1, e2, n, o⟩ := q
    exact ⟨a, d, e1, n, ⟨kvs, e2⟩, o, e, s1⟩
  · obtain ⟨a, d, rfl, n, ⟨kvs, ed⟩, o, e, s1⟩ := q
    unfold Post PostA at p
    simp only [e] at p
    cases o with
    | lst h1 z h2 => cases ed
    | @dK ks es h1 h2 h3 =>
      obtain ⟨o, I2⟩ := I1.lock h1 trivial
      have pu : Pers H1 (upd H1 a (.frz o (.dK ks))) := pers_upd (by rw [h1]; trivial)
      exact ⟨.ref a, _, I2, rv, p (.ref a) _ (same_put s1 n) (.dK upd_same h2 (h3.mono pu))⟩
    | @dT ks es h1 h2 h3 =>
      obtain ⟨o, I2⟩ := I1.lock h1 trivial
      have pu : Pers H1 (upd H1 a (.frz o (.dT ks))) := pers_upd (by rw [h1]; trivial)
      exact ⟨.ref a, _, I2, rv, p (.ref a) _ (same_put s1 n) (.dT upd_same h2 (h3.mono pu))⟩⟩⟩

/-! ### names, constants -/
def fVar (i : Nat) : Env → R D := fun τ => match τ[i]? with | some (some d) => .ok d | _ => .bad
def fC (d : D) : Env → R D := fun _ => .ok d
theorem fVar_ok {i : Nat} {τ : Env} {d : D} (h : fVar i τ = .ok d) : τ[i]? = some (some d) := by
  unfold fVar at h
  split at h
  · rename_i d' e; cases h; exact e
  · cases h
theorem post_var {mg : Str → Option Value} {H : Hp} {i : Nat} {τ : Env} {A : D → Prop} (h : PostA mg W H (fVar i τ) A) : ∃ d, τ[i]? = some (some d) ∧ A d := by
  unfold fVar at h
  split at h
  · rename_i d e; exact ⟨d, e, h⟩
  · exact h.elim
/-- a name whose slot holds persistent data -/
theorem de_var (i : Nat) {x : Str} (hk : kd κ i = .imm := by rfl) (hN : X.N[i]? = some x := by rfl) (hv : Vis X.env.scope x := by first | exact Or.inl rfl | exact Or.inr (Or.inl rfl) | exact Or.inr (Or.inr rfl))
    (hd : (x == ("__debug__" : Str)) = false := by decide) (hcd : (x == ("__classdict__" : Str)) = false := by decide) : DE X H0 W κ rI (.Name x pos) (fVar i) :=
  ⟨(pe_var hN hv hd hcd).cons fun σ H Q ⟨τ, r, p⟩ => by
    obtain ⟨d, e, k⟩ := post_var p
    obtain ⟨v, h1, h2⟩ := r.imm i d e hk
    exact ⟨v, h1, k v H (Same.refl H) h2⟩⟩
theorem de_varF (i : Nat) {x : Str} (hk : kd κ i = .dct := by rfl) (hN : X.N[i]? = some x := by rfl) (hv : Vis X.env.scope x := by first | exact Or.inl rfl | exact Or.inr (Or.inl rfl) | exact Or.inr (Or.inr rfl))
    (hd : (x == ("__debug__" : Str)) = false := by decide) (hcd : (x == ("__classdict__" : Str)) = false := by decide) : DE X H0 W κ rF (.Name x pos) (fVar i) :=
  ⟨(pe_var hN hv hd hcd).cons fun σ H Q ⟨τ, r, p⟩ => by
    obtain ⟨d, e, k⟩ := post_var p
    obtain ⟨v, h1, h2⟩ := r.dct i d e hk
    exact ⟨v, h1, k v H (Same.refl H) h2⟩⟩
/-- any name, to be read -/
theorem de_varD (i : Nat) {x : Str} (hN : X.N[i]? = some x := by rfl) (hv : Vis X.env.scope x := by first | exact Or.inl rfl | exact Or.inr (Or.inl rfl) | exact Or.inr (Or.inr rfl))
    (hd : (x == ("__debug__" : Str)) = false := by decide) (hcd : (x == ("__classdict__" : Str)) = false := by decide) : DE X H0 W κ rD (.Name x pos) (fVar i) :=
  ⟨(pe_var hN hv hd hcd).cons fun σ H Q ⟨τ, r, p⟩ => by
    obtain ⟨d, e, k⟩ := post_var p
    obtain ⟨v, h1, h2⟩ := r.get e
    exact ⟨v, h1, k v H (Same.refl H) h2⟩⟩
theorem de_c {d : D} {v : V} (h : PE X e (tC v)) (i : ∀ H, Im X.K H v d) : DE X H0 W κ rI e (fC d) :=
  ⟨h.cons fun σ H Q ⟨τ, r, p⟩ => p v H (Same.refl H) (i H)⟩
theorem de_int {i : Int} {j : Nat} : DE X H0 W κ rI (.Constant (.int i) j pos) (fC (.int i)) := de_c pe_int fun _ => .int i
theorem de_bl {b : Bool} {j : Nat} : DE X H0 W κ rI (.Constant (.bool b) j pos) (fC (.bool b)) := de_c pe_bl fun _ => .bl b
theorem de_non {j : Nat} : DE X H0 W κ rI (.Constant .none j pos) (fC .none) := de_c pe_non fun _ => .non
theorem de_str {x : Str} {j : Nat} (h : sOk x = true := by decide +kernel) : DE X H0 W κ rI (.Constant (.str x) j pos) (fC (.str x)) := de_c pe_str fun _ => .str x h
/-- a module's int or text -/
theorem de_glInt {x : Str} {i : Int} {t : Tok} (hg : Gl X x) (hm : X.mg x = some (.int i t)) (hd : (x == ("__debug__" : Str)) = false := by decide) : DE X H0 W κ rI (.Name x pos) (fC (.int i)) :=
  de_c (pe_glob (v := .int i) hg hm ⟨t, rfl⟩ hd) fun _ => .int i
theorem de_glStr {x y : Str} {t : Tok} (hg : Gl X x) (hm : X.mg x = some (.str y t)) (h : sOk y = true := by decide +kernel) (hd : (x == ("__debug__" : Str)) = false := by decide) : DE X H0 W κ rI (.Name x pos) (fC (.str y)) :=
  de_c (pe_glob (v := .str y) hg hm ⟨t, rfl⟩ hd) fun _ => .str y h
/-- a module's tuple -/
theorem de_glTup {x : Str} {p : Addr} {o : Obj} {its : Array Value} {n : Nat} {xs : List V} {ds : List D} (hg : Gl X x) (hm : X.mg x = some (.ref p)) (hk : X.K.lookup p = some o) (hc : o.cls = .type "tuple") (hd : o.data = .seq its n)
    (hz : its.size ≤ sizeLine) (hv : Vals xs its.toList) (hi : ∀ H, ImAll X.K H xs ds) (hl : ds.length ≤ sizeLine) (hdb : (x == ("__debug__" : Str)) = false := by decide) : DE X H0 W κ rP (.Name x pos) (fC (.tuple ds)) :=
  ⟨(pe_glob (v := .ref p) hg hm rfl hdb).cons fun σ H Q ⟨τ, r, q⟩ => q (.ref p) H (Same.refl H) (.inr (.mk hk hc hd hz hv (hi H) hl))⟩
end

/-! ### what can be read off -/
section
variable {K : PySem.W.Frag} {H H' : Hp} {x : V}
theorem rD_atom {d : D} (h : rD K H H' x d) (h1 : ∀ ds, d ≠ .list ds) (h2 : ∀ ds, d ≠ .tuple ds) (h3 : ∀ ds, d ≠ .dict ds) : Im K H' x d := by
  rcases h with h | h | ⟨a, e, o⟩ | h
  · exact h
  · cases h
    · exact absurd rfl (h1 _)
    · exact absurd rfl (h3 _)
    · exact absurd rfl (h3 _)
    · exact absurd rfl (h2 _)
  · cases o
    · exact absurd rfl (h1 _)
    · exact absurd rfl (h3 _)
    · exact absurd rfl (h3 _)
  · cases h; exact absurd rfl (h2 _)
theorem rD_int {i : Int} (h : rD K H H' x (.int i)) : x = .int i := by
  cases rD_atom h nofun nofun nofun; rfl
theorem rD_bool {b : Bool} (h : rD K H H' x (.bool b)) : x = .bl b := by
  cases rD_atom h nofun nofun nofun; rfl
theorem rD_none (h : rD K H H' x .none) : x = .non := by
  cases rD_atom h nofun nofun nofun; rfl
theorem rD_str {y : Str} (h : rD K H H' x (.str y)) : x = .str y ∧ sOk y = true := by
  cases rD_atom h nofun nofun nofun with
  | str _ h' => exact ⟨rfl, h'⟩
theorem rD_list {ds : List D} (h : rD K H H' x (.list ds)) : ∃ a xs, x = .ref a ∧ SqL K H' a xs ∧ ImAll K H' xs ds ∧ ds.length ≤ sizeLine := by
  rcases h with h | h | ⟨a, e, o⟩ | h
  · cases h with
    | lst h z a => exact ⟨_, _, rfl, h.sq, a, z⟩
  · cases h with
    | lst h z a => exact ⟨_, _, rfl, h.sq, a, z⟩
  · cases o with
    | lst h1 z h2 => exact ⟨a, _, e, .inl (.inl h1), h2, z⟩
  · cases h
theorem rD_tup {ds : List D} (h : rD K H H' x (.tuple ds)) : ∃ a xs, x = .ref a ∧ SqT K H' a xs ∧ ImAll K H' xs ds ∧ ds.length ≤ sizeLine := by
  rcases h with h | h | ⟨a, e, o⟩ | h
  · cases h with
    | tup h z a => exact ⟨_, _, rfl, .of h, a, z⟩
    | ftup h z a => exact ⟨_, _, rfl, .inl (.inr ⟨_, h⟩), a, z⟩
  · cases h with
    | bk h a n => exact ⟨_, _, rfl, .of h, a, by rw [sizeLine_eq]; exact (by decide : 4 ≤ 16777216)⟩
  · cases o
  · cases h with
    | mk h1 h2 h3 h4 h5 h6 h7 => exact ⟨_, _, rfl, .inr ⟨_, _, _, h1, h2, h3, h4, h5⟩, h6, h7⟩
theorem rD_dict {kvs : List (D × D)} (h : rD K H H' x (.dict kvs)) : ∃ a, x = .ref a ∧
    ((∃ ks ds, Rd H' a (.dK ks) ∧ (∀ p ∈ ks, kOk p.1) ∧ ImAll K H' (ks.map (·.2)) ds ∧ kvs = (ks.map fun p => keyD p.1).zip ds) ∨
     (∃ ks ds, Rd H' a (.dT ks) ∧ (∀ p ∈ ks, ∀ k ∈ p.1, kOk k) ∧ ImAll K H' (ks.map (·.2)) ds ∧ kvs = (.none, .none) :: (ks.map fun p => PyData.tuple (p.1.map keyD)).zip ds)) := by
  rcases h with h | h | ⟨a, e, o⟩ | h
  · cases h
  · cases h with
    | dK h1 h2 h3 => exact ⟨_, rfl, .inl ⟨_, _, .inr ⟨_, h1⟩, h2, h3, rfl⟩⟩
    | dT h1 h2 h3 => exact ⟨_, rfl, .inr ⟨_, _, .inr ⟨_, h1⟩, h2, h3, rfl⟩⟩
  · cases o with
    | dK h1 h2 h3 => exact ⟨_, e, .inl ⟨_, _, .inl h1, h2, h3, rfl⟩⟩
    | dT h1 h2 h3 => exact ⟨_, e, .inr ⟨_, _, .inl h1, h2, h3, rfl⟩⟩
  · cases h
theorem rE_list {ds : List D} (h : rE K H H' x (.list ds)) : ∃ a xs, x = .ref a ∧ Rd H' a (.lst xs) ∧ ImAll K H' xs ds ∧ ds.length ≤ sizeLine := by
  rcases h with h | ⟨a, e, o⟩
  · cases h with
    | lst h z a => exact ⟨_, _, rfl, .inr h, a, z⟩
  · cases o with
    | lst h1 z h2 => exact ⟨a, _, e, .inl h1, h2, z⟩
theorem rE_tup {ds : List D} (h : rE K H H' x (.tuple ds)) : ∃ a xs, x = .ref a ∧ SqT K H' a xs ∧ ImAll K H' xs ds ∧ ds.length ≤ sizeLine := by
  rcases h with h | ⟨a, e, o⟩
  · cases h with
    | tup h z a => exact ⟨_, _, rfl, .of h, a, z⟩
    | ftup h z a => exact ⟨_, _, rfl, .inl (.inr ⟨_, h⟩), a, z⟩
  · cases o
/-- a tuple of keys is no book's last part -/
theorem im_tupK {ks : List Key} (h : Im K H' x (.tuple (ks.map keyD))) : ∃ a xs, x = .ref a ∧ H' a = some (.tup xs) ∧ ImAll K H' xs (ks.map keyD) ∧ (ks.map keyD).length ≤ sizeLine := by
  generalize e : PyData.tuple (ks.map keyD) = d at h
  cases h with
  | non => cases e
  | bl b => cases e
  | int i => cases e
  | str y q => cases e
  | lst q z a => cases e
  | tup q z a => cases e; exact ⟨_, _, rfl, q, a, z⟩
  | ftup q z a =>
    injection e with e
    cases ks with
    | nil => cases e
    | cons k r =>
      rw [List.map_cons] at e
      injection e with e1 e2
      cases k <;> cases e1
theorem rE_tupI {ds : List D} (h : rE K H H' x (.tuple ds)) : Im K H' x (.tuple ds) := by
  rcases h with h | ⟨a, e, o⟩
  · exact h
  · cases o
/-- data (no dict) that can be read, in the hand layer's words -/
theorem rD_dp {d : D} (h : rD K H H' x d) (hd : ∀ kvs, d ≠ .dict kvs) : Dp K H' x d ∧ d.canLay0 = true := by
  rcases h with h | h | ⟨a, e, o⟩ | h
  · exact ⟨h.dp, h.can⟩
  · cases h with
    | lst h z a => exact ⟨.lst h.sq a.dp, by simpa [PyData.canLay0] using a.can⟩
    | dK => exact absurd rfl (hd _)
    | dT => exact absurd rfl (hd _)
    | bk h a n => exact ⟨.tup (.of h) a.dp, by simpa [PyData.canLay0] using a.can⟩
  · subst e
    cases o with
    | lst h1 z h2 => exact ⟨.lst (.of h1) h2.dp, by simpa [PyData.canLay0] using h2.can⟩
    | dK => exact absurd rfl (hd _)
    | dT => exact absurd rfl (hd _)
  · cases h with
    | mk h1 h2 h3 h4 h5 h6 h7 => exact ⟨.tup (.inr ⟨_, _, _, h1, h2, h3, h4, h5⟩) h6.dp, by simpa [PyData.canLay0] using h6.can⟩
end

/-! ### binary operators -/
/-- f at two values that read as a and b comes to what g says -/
def DOp (X : Cx) (W : XK) (f : Value → Value → Sem Value) (g : D → D → R D) (ρa ρb ρ : Res) : Prop :=
  ∀ (pins : List (Addr × Obj)) (s : Shared) (σ : L2.St) (H : Hp) (x y : V) (v u : Value) (a b : D) (Q : VK), Inv X pins σ H s → RelV x v → RelV y u → ρa X.K H H x a → ρb X.K H H y b → Post X.K X.mg W ρ H Q (g a b) →
    wpAny (model X.prog X.w) X.A (f v u) (EP X pins σ Q) X.xe s
def f2 (g : D → D → R D) (fa fb : Env → R D) : Env → R D := fun τ => (fa τ).bind fun a => (fb τ).bind fun b => g a b
def f1 (g : D → R D) (fa : Env → R D) : Env → R D := fun τ => (fa τ).bind g
section
variable {X : Cx} {H0 : Hp} {W : XK} {κ : Kds} {ρ : Res} {e a b : Expr} {f fa fb : Env → R D} {pos : Pos}
/-- DOp as one of the hand layer's rules -/
def rOp (K : PySem.W.Frag) (mg : Str → Option Value) (W : XK) (g : D → D → R D) (ρa ρb ρ : Res) : R2 := fun x y H Q => ∃ a b, ρa K H H x a ∧ ρb K H H y b ∧ Post K mg W ρ H Q (g a b)
theorem DOp.opR {f : Value → Value → Sem Value} {g : D → D → R D} {ρa ρb : Res} (h : DOp X W f g ρa ρb ρ) : OpR X f (rOp X.K X.mg W g ρa ρb ρ) :=
  fun pins s σ H x y v u Q I rx ry ⟨a, b, ha, hb, p⟩ => h pins s σ H x y v u a b Q I rx ry ha hb p
theorem tOp_of {g : D → D → R D} {ρa ρb : Res} (ka : ρa.Stay) (kb : ρb.Stay) (hρ : ρ.Good) {σ : L2.St} {H : Hp} {Q : VK} (h : tD X.K X.mg H0 W κ ρ (f2 g fa fb) σ H Q) :
    tOp (rOp X.K X.mg W g ρa ρb ρ) (tD X.K X.mg H0 W κ ρa fa) (tD X.K X.mg H0 W κ ρb fb) σ H Q := by
  obtain ⟨τ, r, p⟩ := h
  refine ⟨τ, r, PostA.imp (PostA.bind p) fun a pa x H1 s1 ha => ⟨τ, r.to s1, PostA.imp (PostA.bind (PostA.to pa s1)) fun b pb y H2 s2 hb => ?_⟩⟩
  exact ⟨a, b, ka.to _ _ _ _ _ _ _ s2 ha, kb.to _ _ _ _ _ _ _ (Same.refl H2) hb, PostA.imp (PostA.to pb s2) fun d k v H' s3 q => k v H' ((s1.trans s2).trans s3) (hρ.anti _ _ _ _ _ _ (s1.trans s2) q)⟩
theorem de_op {op : Operator} {g : D → D → R D} (ho : DOp X W (binaryOp op) g rE rE ρ) (hρ : ρ.Good) (ha : DE X H0 W κ rE a fa) (hb : DE X H0 W κ rE b fb) : DE X H0 W κ ρ (.BinOp a op b pos) (f2 g fa fb) :=
  ⟨(pe_op ho.opR ha.pe hb.pe).cons fun _ _ _ h => tOp_of stay_E stay_E hρ h⟩
theorem de_cmp {op : CmpOp} {g : D → D → R D} {ρb : Res} (ho : DOp X W (compareOp op) g rE ρb rI) (kb : ρb.Stay) (ha : DE X H0 W κ rE a fa) (hb : DE X H0 W κ ρb b fb) (hm : behindInMarks op b = false := by rfl) : DE X H0 W κ rI (.Compare a [op] [b] pos) (f2 g fa fb) :=
  ⟨(pe_cmpR ho.opR ha.pe hb.pe hm).cons fun _ _ _ h => tOp_of stay_E kb good_I h⟩
end
end PL
set_option Elab.async false
set_option linter.all false
set_option maxRecDepth 100000
/-! PL3: tests, and / or / not, the operators by values. -/
namespace PL
open PySem PySem.Spec PyProof.Rows L2

/-! ### truth, tests -/
def dTruth : D → R Bool
  | .none => .ok false
  | .bool b => .ok b
  | .int i => .ok (i != 0)
  | .str y => .ok ((y.length : Int) != 0)
  | .list xs => .ok (!xs.isEmpty)
  | .tuple xs => .ok (!xs.isEmpty)
  | _ => .bad
def tT (K : PySem.W.Frag) (mg : Str → Option Value) (H0 : Hp) (W : XK) (κ : Kds) (f : Env → R Bool) : TT := fun σ H Q => ∃ τ, Rep K H0 H κ σ τ ∧ PostA mg W H (f τ) fun b => ∀ H', Same H H' → Q b H'
structure DT (X : Cx) (H0 : Hp) (W : XK) (κ : Kds) (e : Expr) (f : Env → R Bool) : Prop where
  pt : PT X e (tT X.K X.mg H0 W κ f)
structure DW (X : Cx) (H0 : Hp) (W : XK) (κ : Kds) (e : Expr) (f : Env → R Bool) : Prop where
  pw : PW X e (tT X.K X.mg H0 W κ f)
theorem _root_.L2.PT.cons {X : Cx} {e : Expr} {t t' : TT} (h : PT X e t) (i : ∀ σ H Q, t' σ H Q → t σ H Q) : PT X e t' :=
  ⟨fun pins s σ H Q I z => h.run pins s σ H Q I (i σ H Q z)⟩
theorem _root_.L2.PW.cons {X : Cx} {e : Expr} {t t' : TT} (h : PW X e t) (i : ∀ σ H Q, t' σ H Q → t σ H Q) : PW X e t' :=
  ⟨fun whole pins s σ H Q I z => h.run whole pins s σ H Q I (i σ H Q z)⟩
theorem imAll_isEmpty {K : PySem.W.Frag} {H : Hp} {xs : List V} {ds : List D} (h : ImAll K H xs ds) : xs.isEmpty = ds.isEmpty := by
  cases h <;> rfl
theorem truV_of {K : PySem.W.Frag} {H H' : Hp} {x : V} {d : D} {k : Bool} (h : rD K H H' x d) (e : dTruth d = .ok k) : TruV K x H' k := by
  cases d with
  | none => rw [rD_none h]; cases e; rfl
  | bool b => rw [rD_bool h]; cases e; rfl
  | int i => rw [rD_int h]; cases e; rfl
  | str y =>
    obtain ⟨rfl, o⟩ := rD_str h
    cases e
    exact ⟨sOk_len o, rfl⟩
  | list ds =>
    obtain ⟨a, xs, rfl, hr, hi, _⟩ := rD_list h
    cases e
    exact .inl ⟨xs, hr, by rw [imAll_isEmpty hi]⟩
  | tuple ds =>
    obtain ⟨a, xs, rfl, hr, hi, _⟩ := rD_tup h
    cases e
    exact .inr (.inl ⟨xs, hr, by rw [imAll_isEmpty hi]⟩)
  | dict kvs => cases e
theorem postTruth {α : Type} {mg : Str → Option Value} {W : XK} {H : Hp} {d : D} {A : Bool → Prop} (h : PostA mg W H (dTruth d) A) : ∃ k, dTruth d = .ok k ∧ A k := by
  cases d <;> first | exact ⟨_, rfl, h⟩ | exact h.elim
section
variable {X : Cx} {H0 : Hp} {W : XK} {κ : Kds} {ρ : Res} {e a b c : Expr} {rest : List Expr} {f fa fb fc : Env → R D} {ta tb tc : Env → R Bool} {pos : Pos}
def fTru (f : Env → R D) : Env → R Bool := fun τ => (f τ).bind dTruth
/-- an expression as a test -/
theorem dt_val (h : DE X H0 W κ rD e f) (he : ∀ whole, isTrue e X.env whole = (do let v ← whole; standAt e.pos; holding [v] (truthy v)) := by intro _; rfl) : DT X H0 W κ e (fTru f) :=
  ⟨(pt_truth h.pe he).cons fun σ H Q ⟨τ, r, p⟩ => ⟨τ, r, PostA.imp (PostA.bind p) fun d pd v H1 s1 hv => by
    obtain ⟨k, ek, hk⟩ := postTruth (α := Unit) pd
    exact ⟨k, truV_of hv ek, hk H1 s1⟩⟩⟩
/-- a comparison as a test -/
theorem dt_cmp {op : CmpOp} {g : D → D → R D} {ρb : Res} (ho : DOp X W (compareOp op) g rE ρb rI) (kb : ρb.Stay) (hb1 : ∀ a b d, g a b = .ok d → ∃ k, d = .bool k) (ha : DE X H0 W κ rE a fa) (hb : DE X H0 W κ ρb b fb) (hm : behindInMarks op b = false := by rfl) :
    DT X H0 W κ (.Compare a [op] [b] pos) (fTru (f2 g fa fb)) :=
  ⟨(pt_cmpR ho.opR ha.pe hb.pe hm).cons fun σ H Q ⟨τ, r, p⟩ => by
    refine tOp_of stay_E kb good_I ⟨τ, r, ?_⟩
    refine PostA.imp' (PostA.bind p) fun d e pd v H' s1 hv => ?_
    unfold f2 at e
    have : ∃ x y, g x y = .ok d := by
      cases h1 : fa τ with
      | ok x =>
        rw [h1] at e
        cases h2 : fb τ with
        | ok y => rw [R.bind_ok, h2] at e; exact ⟨x, y, e⟩
        | err n => rw [R.bind_ok, h2] at e; cases e
        | bad => rw [R.bind_ok, h2] at e; cases e
      | err n => rw [h1] at e; cases e
      | bad => rw [h1] at e; cases e
    obtain ⟨x, y, exy⟩ := this
    obtain ⟨k, rfl⟩ := hb1 x y d exy
    cases hv
    exact ⟨k, rfl, pd H' s1⟩⟩
def tAndB (ta tb : Env → R Bool) : Env → R Bool := fun τ => (ta τ).bind fun c => if c = true then tb τ else .ok false
def tOrB (ta tb : Env → R Bool) : Env → R Bool := fun τ => (ta τ).bind fun c => if c = true then .ok true else tb τ
def tNotB (ta : Env → R Bool) : Env → R Bool := fun τ => (ta τ).bind fun c => .ok (!c)
theorem DW.dt (h : DW X H0 W κ e ta) : DT X H0 W κ e ta := ⟨h.pw.pt⟩
theorem dw_and1 (h : DT X H0 W κ a ta) : DW X H0 W κ (.BoolOp .And [a] pos) ta := ⟨pw_and1 h.pt⟩
theorem dw_or1 (h : DT X H0 W κ a ta) : DW X H0 W κ (.BoolOp .Or [a] pos) ta := ⟨pw_or1 h.pt⟩
theorem dw_and (ha : DT X H0 W κ a ta) (hb : DW X H0 W κ (.BoolOp .And (b :: rest) pos) tb) : DW X H0 W κ (.BoolOp .And (a :: b :: rest) pos) (tAndB ta tb) :=
  ⟨(pw_and ha.pt hb.pw).cons fun σ H Q ⟨τ, r, p⟩ => ⟨τ, r, PostA.imp (PostA.bind p) fun c pc H1 s1 => by
    cases c with
    | true => rw [if_pos rfl] at pc ⊢; exact ⟨τ, r.to s1, PostA.imp (PostA.to pc s1) fun b hb H2 s2 => hb H2 (s1.trans s2)⟩
    | false => rw [if_neg (by decide)] at pc ⊢; exact pc H1 s1⟩⟩
theorem dw_or (ha : DT X H0 W κ a ta) (hb : DW X H0 W κ (.BoolOp .Or (b :: rest) pos) tb) : DW X H0 W κ (.BoolOp .Or (a :: b :: rest) pos) (tOrB ta tb) :=
  ⟨(pw_or ha.pt hb.pw).cons fun σ H Q ⟨τ, r, p⟩ => ⟨τ, r, PostA.imp (PostA.bind p) fun c pc H1 s1 => by
    cases c with
    | false => rw [if_neg (by decide)] at pc ⊢; exact ⟨τ, r.to s1, PostA.imp (PostA.to pc s1) fun b hb H2 s2 => hb H2 (s1.trans s2)⟩
    | true => rw [if_pos rfl] at pc ⊢; exact pc H1 s1⟩⟩
theorem dt_not (ha : DT X H0 W κ a ta) : DT X H0 W κ (.UnaryOp .Not a pos) (tNotB ta) :=
  ⟨(pt_not ha.pt).cons fun σ H Q ⟨τ, r, p⟩ => ⟨τ, r, PostA.imp (PostA.bind p) fun c pc H1 s1 => pc H1 s1⟩⟩

/-! values -/
def fAnd (fa fb : Env → R D) : Env → R D := fun τ => (fa τ).bind fun a => (dTruth a).bind fun c => if c = true then fb τ else .ok a
def fOr (fa fb : Env → R D) : Env → R D := fun τ => (fa τ).bind fun a => (dTruth a).bind fun c => if c = true then .ok a else fb τ
def fNot (fa : Env → R D) : Env → R D := fun τ => (fa τ).bind fun a => (dTruth a).bind fun c => .ok (.bool (!c))
def fIf (tc : Env → R Bool) (fa fb : Env → R D) : Env → R D := fun τ => (tc τ).bind fun c => if c = true then fa τ else fb τ
theorem de_one {op : BoolOp} (h : DE X H0 W κ ρ a fa) : DE X H0 W κ ρ (.BoolOp op [a] pos) fa := ⟨pe_one h.pe⟩
theorem de_and (hρ : ρ.Good) (hd : Res.Le ρ rD) (ha : DE X H0 W κ ρ a fa) (hb : DE X H0 W κ ρ (.BoolOp .And (b :: rest) pos) fb) : DE X H0 W κ ρ (.BoolOp .And (a :: b :: rest) pos) (fAnd fa fb) :=
  ⟨(pe_andT ha.pe hb.pe).cons fun σ H Q ⟨τ, r, p⟩ => ⟨τ, r, PostA.imp (PostA.bind p) fun d pd v H1 s1 hv => by
    obtain ⟨k, ek, hk⟩ := postTruth (α := Unit) (PostA.bind pd)
    refine ⟨k, truV_of (hd.le _ _ _ _ _ hv) ek, ?_⟩
    cases k with
    | true => rw [if_pos rfl] at hk ⊢; exact ⟨τ, r.to s1, Post.to hρ hk s1⟩
    | false => rw [if_neg (by decide)] at hk ⊢; exact hk v H1 s1 hv⟩⟩
theorem de_or (hρ : ρ.Good) (hd : Res.Le ρ rD) (ha : DE X H0 W κ ρ a fa) (hb : DE X H0 W κ ρ (.BoolOp .Or (b :: rest) pos) fb) : DE X H0 W κ ρ (.BoolOp .Or (a :: b :: rest) pos) (fOr fa fb) :=
  ⟨(pe_orT ha.pe hb.pe).cons fun σ H Q ⟨τ, r, p⟩ => ⟨τ, r, PostA.imp (PostA.bind p) fun d pd v H1 s1 hv => by
    obtain ⟨k, ek, hk⟩ := postTruth (α := Unit) (PostA.bind pd)
    refine ⟨k, truV_of (hd.le _ _ _ _ _ hv) ek, ?_⟩
    cases k with
    | true => rw [if_pos rfl] at hk ⊢; exact hk v H1 s1 hv
    | false => rw [if_neg (by decide)] at hk ⊢; exact ⟨τ, r.to s1, Post.to hρ hk s1⟩⟩⟩
theorem de_not (ha : DE X H0 W κ rD a fa) : DE X H0 W κ rI (.UnaryOp .Not a pos) (fNot fa) :=
  ⟨(pe_notT ha.pe).cons fun σ H Q ⟨τ, r, p⟩ => ⟨τ, r, PostA.imp (PostA.bind p) fun d pd v H1 s1 hv => by
    obtain ⟨k, ek, hk⟩ := postTruth (α := Unit) (PostA.bind pd)
    exact ⟨k, truV_of hv ek, hk _ H1 s1 (.bl _)⟩⟩⟩
theorem de_if (hρ : ρ.Good) (hc : DT X H0 W κ c tc) (ha : DE X H0 W κ ρ a fa) (hb : DE X H0 W κ ρ b fb) : DE X H0 W κ ρ (.IfExp c a b pos) (fIf tc fa fb) :=
  ⟨(pe_ifExp hc.pt ha.pe hb.pe).cons fun σ H Q ⟨τ, r, p⟩ => ⟨τ, r, PostA.imp (PostA.bind p) fun c pc H1 s1 => by
    cases c with
    | true => rw [if_pos rfl] at pc ⊢; exact ⟨τ, r.to s1, Post.to hρ pc s1⟩
    | false => rw [if_neg (by decide)] at pc ⊢; exact ⟨τ, r.to s1, Post.to hρ pc s1⟩⟩⟩
end

/-! ### arithmetic, + -/
def dAdd : D → D → R D
  | .int i, .int j => .ok (.int (i + j))
  | .str x, .str y => if x.length + y.length ≤ sizeLine then .ok (.str (x ++ y)) else .bad
  | .list xs, .list ys => if xs.length + ys.length ≤ sizeLine then .ok (.list (xs ++ ys)) else .bad
  | .tuple xs, .tuple ys => if xs.length + ys.length ≤ sizeLine then .ok (.tuple (xs ++ ys)) else .bad
  | _, _ => .bad
def dSub : D → D → R D
  | .int i, .int j => .ok (.int (i - j))
  | _, _ => .bad
def inMul (i : Int) : Bool := decide (-(2 ^ 64) < i) && decide (i < 2 ^ 64)
def dMul : D → D → R D
  | .int i, .int j => if (inMul i || inMul j) = true then .ok (.int (i * j)) else .bad
  | .list xs, .int k => if xs.length * k.toNat ≤ sizeLine ∧ -(2 ^ 63) ≤ k ∧ k < 2 ^ 63 then .ok (.list (List.replicate k.toNat xs).flatten) else .bad
  | .tuple xs, .int k => if xs ≠ [] ∧ 2 ≤ k ∧ k ≤ 1000 ∧ xs.length ≤ 1000 then .ok (.tuple (List.replicate k.toNat xs).flatten) else .bad
  | _, _ => .bad
def dMod : D → D → R D
  | .int i, .int j => if 0 < j then .ok (.int (i % j)) else .bad
  | _, _ => .bad
def dFdiv : D → D → R D
  | .int i, .int j => if 0 < j ∧ j < 1073741824 then .ok (.int (i / j)) else .bad
  | _, _ => .bad
def dPow : D → D → R D
  | .int i, .int j => if 0 ≤ j ∧ j ≤ 1000000 ∧ i.natAbs < 2 ^ 64 then .ok (.int (i ^ j.toNat)) else .bad
  | _, _ => .bad
theorem len_app (x y : Str) : (x ++ y).length = x.length + y.length := by
  show (x.cps ++ y.cps).size = _
  rw [Array.size_append]; rfl
theorem sOk_app {x y : Str} (hx : sOk x = true) (hy : sOk y = true) (hz : x.length + y.length ≤ sizeLine) : sOk (x ++ y) = true := by
  refine Bool.and_eq_true_iff.mpr ⟨?_, decide_eq_true (by rw [len_app]; exact hz)⟩
  have hx := sOk_ok hx
  have hy := sOk_ok hy
  unfold PyData.strOk at *
  show (x.cps ++ y.cps).all _ = true
  rw [Array.all_append, hx, hy]; rfl
theorem ImAll.rep {K : PySem.W.Frag} {H : Hp} {xs : List V} {ds : List D} (h : ImAll K H xs ds) : ∀ n : Nat, ImAll K H (List.replicate n xs).flatten (List.replicate n ds).flatten
  | 0 => .nil
  | n + 1 => by rw [List.replicate_succ, List.replicate_succ, List.flatten_cons, List.flatten_cons]; exact h.append (ImAll.rep h n)
section
variable {X : Cx} {W : XK} {pins : List (Addr × Obj)} {s : Shared} {σ : L2.St} {H : Hp}
theorem _root_.L2.Inv.lstR {l : Addr} {xs : List V} (I : Inv X pins σ H s) (h : Rd H l (.lst xs)) : xs.length ≤ sizeLine ∧ ∃ (its : List Value) (n : Nat), Vals xs its ∧ s.heap.get? l = some { cls := .type "list", data := .seq its.toArray n } :=
  h.ok I.hok
/-- a new list of what reads as ds -/
theorem new_list {its : List Value} {xs : List V} {ds : List D} {Q : VK} (I : Inv X pins σ H s) (r : Vals xs its) (hi : ImAll X.K H xs ds) (hz : ds.length ≤ sizeLine) (p : ∀ v H', Same H H' → rN X.K H H' v (.list ds) → Q v H') {t : Nat} :
    EP X pins σ Q (.ref s.heap.objs.size) { s with heap := s.heap.push { cls := .type "list", data := .seq its.toArray }, toks := t } := by
  have f := I.fresh
  refine ⟨.ref _, _, I.lnew r (by rw [hi.length]; exact hz), rfl, p _ _ (same_upd f) ⟨_, _, rfl, rfl, f, .lst upd_same hz (hi.mono (Same.pers (same_upd f)))⟩⟩
theorem N_Q {K : PySem.W.Frag} {H H' : Hp} {v : V} {ds : List D} (h : rN K H H' v (.list ds)) : rQ K H H' v (.list ds) :=
  .inr h
theorem im_tup_new {K : PySem.W.Frag} {p : Addr} {xs : List V} {ds : List D} (n : H p = none) (hi : ImAll K H xs ds) (hz : ds.length ≤ sizeLine) : Im K (upd H p (.tup xs)) (.ref p) (.tuple ds) :=
  .tup upd_same hz (hi.mono (Same.pers (same_upd n)))
/-- list + list -/
theorem list_add {l b : Addr} {xs ys : List V} {ds es : List D} {Q : VK} (I : Inv X pins σ H s) (h1 : Rd H l (.lst xs)) (h2 : Rd H b (.lst ys)) (i1 : ImAll X.K H xs ds) (i2 : ImAll X.K H ys es) (hz : ds.length + es.length ≤ sizeLine)
    (p : ∀ v H', Same H H' → rN X.K H H' v (.list (ds ++ es)) → Q v H') : wpAny (model X.prog X.w) X.A (binaryOp .Add (.ref l) (.ref b)) (EP X pins σ Q) X.xe s := by
  obtain ⟨z1, its, n, r1, e1⟩ := I.lstR h1
  obtain ⟨z2, its2, n2, r2, e2⟩ := I.lstR h2
  have q1 := r1.length
  have q2 := r2.length
  have q3 := i1.length
  have q4 := i2.length
  refine PySem.P.add_list e1 e2 ?_ (by simp only [List.size_toArray]; omega)
  rw [show its.toArray ++ its2.toArray = (its ++ its2).toArray by simp]
  exact new_list (t := s.toks) I (r1.append r2) (i1.append i2) (by rw [List.length_append]; omega) p
theorem do_add : DOp X W (binaryOp .Add) dAdd rE rE rQ := by
  intro pins s σ H x y v u a b Q I rx ry ha hb p
  cases a <;> cases b <;> try exact p.elim
  · rename_i i j
    exact op_add pins s σ H x y v u Q I rx ry ⟨i, j, rD_int (le_ED.le _ H _ _ _ ha), rD_int (le_ED.le _ H _ _ _ hb), p _ H (Same.refl H) (.inl (.int _))⟩
  · rename_i i j
    obtain ⟨rfl, o1⟩ := rD_str (le_ED.le _ H _ _ _ ha)
    obtain ⟨rfl, o2⟩ := rD_str (le_ED.le _ H _ _ _ hb)
    by_cases hz : i.length + j.length ≤ sizeLine
    · simp only [Post, PostA, dAdd, if_pos hz] at p
      exact op_add_str pins s σ H _ _ v u Q I rx ry ⟨i, j, rfl, rfl, hz, p _ H (Same.refl H) (.inl (.str _ (sOk_app o1 o2 hz)))⟩
    · simp only [Post, PostA, dAdd, if_neg hz] at p
  · rename_i ds es
    obtain ⟨l, xs, rfl, r1, i1, z1⟩ := rE_list ha
    obtain ⟨l2, ys, rfl, r2, i2, z2⟩ := rE_list hb
    cases rx
    cases ry
    by_cases hz : ds.length + es.length ≤ sizeLine
    · simp only [Post, PostA, dAdd, if_pos hz] at p
      exact list_add I r1 r2 i1 i2 hz fun v H' s1 q => p v H' s1 (N_Q q)
    · simp only [Post, PostA, dAdd, if_neg hz] at p
  · rename_i ds es
    obtain ⟨l, xs, rfl, r1, i1, z1⟩ := rE_tup ha
    obtain ⟨l2, ys, rfl, r2, i2, z2⟩ := rE_tup hb
    have q3 := i1.length
    have q4 := i2.length
    by_cases hz : ds.length + es.length ≤ sizeLine
    · simp only [Post, PostA, dAdd, if_pos hz] at p
      refine op_catA pins s σ H _ _ v u Q I rx ry ⟨l, l2, xs, ys, rfl, rfl, r1, r2, by omega, fun e => ?_, fun _ e => ?_, fun _ _ q n => ?_⟩
      · subst e
        cases i1
        exact p _ H (Same.refl H) (.inl (rE_tupI hb))
      · subst e
        cases i2
        rw [List.append_nil] at p
        exact p _ H (Same.refl H) (.inl (rE_tupI ha))
      · exact p _ _ (same_upd n) (.inl (im_tup_new n (i1.append i2) (by rw [List.length_append]; exact hz)))
    · simp only [Post, PostA, dAdd, if_neg hz] at p
/-- list + list, the list one's own -/
def dAddL : D → D → R D
  | .list xs, .list ys => if xs.length + ys.length ≤ sizeLine then .ok (.list (xs ++ ys)) else .bad
  | _, _ => .bad
theorem do_addL : DOp X W (binaryOp .Add) dAddL rE rE rN := by
  intro pins s σ H x y v u a b Q I rx ry ha hb p
  cases a <;> cases b <;> try exact p.elim
  rename_i ds es
  obtain ⟨l, xs, rfl, r1, i1, z1⟩ := rE_list ha
  obtain ⟨l2, ys, rfl, r2, i2, z2⟩ := rE_list hb
  cases rx
  cases ry
  by_cases hz : ds.length + es.length ≤ sizeLine
  · simp only [Post, PostA, dAddL, if_pos hz] at p
    exact list_add I r1 r2 i1 i2 hz p
  · simp only [Post, PostA, dAddL, if_neg hz] at p
theorem do_sub : DOp X W (binaryOp .Sub) dSub rE rE rI := by
  intro pins s σ H x y v u a b Q I rx ry ha hb p
  cases a <;> cases b <;> try exact p.elim
  exact op_sub pins s σ H x y v u Q I rx ry ⟨_, _, rD_int (le_ED.le _ H _ _ _ ha), rD_int (le_ED.le _ H _ _ _ hb), p _ H (Same.refl H) (.int _)⟩
theorem do_mod : DOp X W (binaryOp .Mod) dMod rE rE rI := by
  intro pins s σ H x y v u a b Q I rx ry ha hb p
  cases a <;> cases b <;> try exact p.elim
  rename_i i j
  by_cases hz : 0 < j
  · simp only [Post, PostA, dMod, if_pos hz] at p
    exact op_mod pins s σ H x y v u Q I rx ry ⟨_, _, rD_int (le_ED.le _ H _ _ _ ha), rD_int (le_ED.le _ H _ _ _ hb), hz, p _ H (Same.refl H) (.int _)⟩
  · simp only [Post, PostA, dMod, if_neg hz] at p
theorem do_fdiv : DOp X W (binaryOp .FloorDiv) dFdiv rE rE rI := by
  intro pins s σ H x y v u a b Q I rx ry ha hb p
  cases a <;> cases b <;> try exact p.elim
  rename_i i j
  by_cases hz : 0 < j ∧ j < 1073741824
  · simp only [Post, PostA, dFdiv, if_pos hz] at p
    exact op_fdiv pins s σ H x y v u Q I rx ry ⟨_, _, rD_int (le_ED.le _ H _ _ _ ha), rD_int (le_ED.le _ H _ _ _ hb), hz, p _ H (Same.refl H) (.int _)⟩
  · simp only [Post, PostA, dFdiv, if_neg hz] at p
theorem do_pow : DOp X W (binaryOp .Pow) dPow rE rE rI := by
  intro pins s σ H x y v u a b Q I rx ry ha hb p
  cases a <;> cases b <;> try exact p.elim
  rename_i i j
  by_cases hz : 0 ≤ j ∧ j ≤ 1000000 ∧ i.natAbs < 2 ^ 64
  · simp only [Post, PostA, dPow, if_pos hz] at p
    exact op_pow pins s σ H x y v u Q I rx ry ⟨_, _, rD_int (le_ED.le _ H _ _ _ ha), rD_int (le_ED.le _ H _ _ _ hb), hz, p _ H (Same.refl H) (.int _)⟩
  · simp only [Post, PostA, dPow, if_neg hz] at p
end
end PL
set_option Elab.async false
set_option linter.all false
set_option maxRecDepth 100000
set_option maxHeartbeats 1000000
/-! PL4: products, comparisons, displays, items, slices. -/
namespace PL
open PySem PySem.Spec PyProof.Rows L2
section
variable {X : Cx} {W : XK} {pins : List (Addr × Obj)} {s : Shared} {σ : L2.St} {H : Hp}
theorem rE_int {K : PySem.W.Frag} {H H' : Hp} {x : V} {i : Int} (h : rE K H H' x (.int i)) : x = .int i := rD_int (le_ED.le _ H _ _ _ h)
theorem rE_bool {K : PySem.W.Frag} {H H' : Hp} {x : V} {i : Bool} (h : rE K H H' x (.bool i)) : x = .bl i := rD_bool (le_ED.le _ H _ _ _ h)
theorem rE_none {K : PySem.W.Frag} {H H' : Hp} {x : V} (h : rE K H H' x .none) : x = .non := rD_none (le_ED.le _ H _ _ _ h)
theorem rE_str {K : PySem.W.Frag} {H H' : Hp} {x : V} {y : Str} (h : rE K H H' x (.str y)) : x = .str y ∧ sOk y = true := rD_str (le_ED.le _ H _ _ _ h)
theorem rep_arr (its : List Value) (m : Nat) : List.foldl (fun x1 x2 => x1 ++ x2) #[] (List.replicate m its.toArray) = (List.replicate m its).flatten.toArray := by
  simpa using foldl_rep its m []
theorem rep_arr0 (its : List Value) (m : Nat) : List.foldl (fun x1 x2 => x1 ++ x2) #[] (List.replicate (if its.toArray.isEmpty = true then 0 else m) its.toArray) = (List.replicate m its).flatten.toArray := by
  rw [rep_arr]
  cases its <;> simp
/-- list * int -/
theorem list_mul {l : Addr} {xs : List V} {ds : List D} {k : Int} {t : Tok} {Q : VK} (I : Inv X pins σ H s) (h1 : Rd H l (.lst xs)) (i1 : ImAll X.K H xs ds) (hz : ds.length * k.toNat ≤ sizeLine) (hk1 : -(2 ^ 63) ≤ k) (hk2 : k < 2 ^ 63)
    (p : ∀ v H', Same H H' → rN X.K H H' v (.list (List.replicate k.toNat ds).flatten) → Q v H') : wpAny (model X.prog X.w) X.A (binaryOp .Mult (.ref l) (.int k t)) (EP X pins σ Q) X.xe s := by
  obtain ⟨z1, its, n, r, e⟩ := I.lstR h1
  have q1 := r.length
  have q3 := i1.length
  have sz : its.toArray.size * k.toNat ≤ sizeLine := by rw [List.size_toArray, ← q1, q3]; exact hz
  have a1 : ¬ its.toArray.size * k.toNat > (2 ^ 63 - 1) / 8 := by
    have : (sizeLine : Nat) ≤ (2 ^ 63 - 1) / 8 := by decide
    omega
  have a2 : ¬ (!Builtin.List.listFitsIndex k) = true := by rw [fitsIndex_both hk1 hk2]; decide
  have a3 : ¬ Builtin.List.listTooLong (its.toArray.size * k.toNat) = true := by rw [notLongL sz]; decide
  refine wpAny_binaryOp_repeat_ref (T := "list") (U := "int") (by decide) ⟨_, e, rfl⟩ (fun s' => typeIs_int s' k t) noFill_list_mul F.fills_int_mul F.slot_int_rmul repeat_list F.slot_int_index.lookup ?_
  refine call_meets F.slot_int_rmul (typeIs_int s k t) F.entry_int_rmul (F.args_int_rmul_2 _ _) (int___rmul___int_list k t l its.toArray n) ⟨e, rfl, ⟨_, e, rfl⟩, ?_⟩
  refine call_meets F.slot_list_mul ⟨_, e, rfl⟩ F.entry_list_mul (F.args_list_mul_2 _ _) (AutoListH.list___mul___list_int_3 l its.toArray n k t a2 a1 a3) ⟨e, ?_⟩
  rw [rep_arr0]
  exact new_list (t := s.toks) I (r.rep k.toNat) (i1.rep k.toNat) (by rw [PyProof.Rows.lm_len_rep_flat, Nat.mul_comm]; exact hz) p
theorem do_mul : DOp X W (binaryOp .Mult) dMul rE rE rQ := by
  intro pins s σ H x y v u a b Q I rx ry ha hb p
  cases a <;> cases b <;> try exact p.elim
  · rename_i i j
    by_cases hz : (inMul i || inMul j) = true
    · simp only [Post, PostA, dMul, if_pos hz] at p
      refine op_mul pins s σ H x y v u Q I rx ry ⟨i, j, rE_int ha, rE_int hb, ?_, p _ H (Same.refl H) (.inl (.int _))⟩
      rcases Bool.or_eq_true_iff.mp hz with h | h
      · have := Bool.and_eq_true_iff.mp h; exact .inl ⟨of_decide_eq_true this.1, of_decide_eq_true this.2⟩
      · have := Bool.and_eq_true_iff.mp h; exact .inr ⟨of_decide_eq_true this.1, of_decide_eq_true this.2⟩
    · simp only [Post, PostA, dMul, if_neg hz] at p
  · rename_i ds k
    obtain ⟨l, xs, rfl, r1, i1, z1⟩ := rE_list ha
    cases rE_int hb
    obtain ⟨t, rfl⟩ := ry
    cases rx
    by_cases hz : ds.length * k.toNat ≤ sizeLine ∧ -(2 ^ 63) ≤ k ∧ k < 2 ^ 63
    · simp only [Post, PostA, dMul, if_pos hz] at p
      exact list_mul I r1 i1 hz.1 hz.2.1 hz.2.2 fun v H' s1 q => p v H' s1 (N_Q q)
    · simp only [Post, PostA, dMul, if_neg hz] at p
  · rename_i ds k
    obtain ⟨l, xs, rfl, r1, i1, z1⟩ := rE_tup ha
    cases rE_int hb
    by_cases hz : ds ≠ [] ∧ 2 ≤ k ∧ k ≤ 1000 ∧ ds.length ≤ 1000
    · simp only [Post, PostA, dMul, if_pos hz] at p
      have q := i1.length
      refine op_repT pins s σ H _ _ v u Q I rx ry ⟨l, k, xs, rfl, rfl, r1, ?_, hz.2.1, hz.2.2.1, by omega, fun q n => p _ _ (same_upd n) (.inl (im_tup_new n (i1.rep k.toNat) (by rw [PyProof.Rows.lm_len_rep_flat]; exact Nat.le_trans (Nat.mul_le_mul (show k.toNat ≤ 1000 by omega) hz.2.2.2) (by decide))))⟩
      rintro rfl
      cases i1
      exact hz.1 rfl
    · simp only [Post, PostA, dMul, if_neg hz] at p

/-! ### comparisons -/
def isDict : D → Bool
  | .dict _ => true
  | _ => false
theorem notDict {d : D} (h : isDict d = false) : ∀ kvs, d ≠ .dict kvs := by rintro kvs rfl; cases h
/-- two things of known depth, no dicts -/
def near (a b : D) : Bool := !isDict a && !isDict b && decide (min a.depth b.depth ≤ 64)
def dEq (a b : D) : R D := if near a b = true then .ok (.bool (PyData.eqv a b)) else .bad
def dNe (a b : D) : R D := if near a b = true then .ok (.bool (!PyData.eqv a b)) else .bad
theorem near_of {a b : D} (h : near a b = true) : isDict a = false ∧ isDict b = false ∧ min a.depth b.depth ≤ 64 := by
  unfold near at h
  simp only [Bool.and_eq_true, Bool.not_eq_true', decide_eq_true_eq] at h
  exact ⟨h.1.1, h.1.2, h.2⟩
theorem two_read {x y : V} {v u : Value} {a b : D} (I : Inv X pins σ H s) (rx : RelV x v) (ry : RelV y u) (ha : rD X.K H H x a) (hb : rD X.K H H y b) (na : isDict a = false) (nb : isDict b = false) :
    (∃ as, Reads s.heap v a as) ∧ (∃ bs, Reads s.heap u b bs) ∧ a.canLay0 = true ∧ b.canLay0 = true := by
  obtain ⟨d1, c1⟩ := rD_dp ha (notDict na)
  obtain ⟨d2, c2⟩ := rD_dp hb (notDict nb)
  exact ⟨Dp.reads I a x v d1 rx, Dp.reads I b y u d2 ry, c1, c2⟩
theorem do_eq (hu : X.A.units + 64 < cLine) : DOp X W (compareOp .Eq) dEq rE rE rI := by
  intro pins s σ H x y v u a b Q I rx ry ha hb p
  by_cases hz : near a b = true
  · simp only [Post, PostA, dEq, if_pos hz] at p
    obtain ⟨n1, n2, n3⟩ := near_of hz
    obtain ⟨⟨as, r1⟩, ⟨bs, r2⟩, c1, c2⟩ := two_read I rx ry (le_ED.le _ H _ _ _ ha) (le_ED.le _ H _ _ _ hb) n1 n2
    exact SeqAt.compareEq_reads r1 r2 c1 c2 (by omega) ⟨.bl _, H, I, rfl, p _ H (Same.refl H) (.bl _)⟩
  · simp only [Post, PostA, dEq, if_neg hz] at p
theorem do_ne (hu : X.A.units + 64 < cLine) : DOp X W (compareOp .NotEq) dNe rE rE rI := by
  intro pins s σ H x y v u a b Q I rx ry ha hb p
  by_cases hz : near a b = true
  · simp only [Post, PostA, dNe, if_pos hz] at p
    obtain ⟨n1, n2, n3⟩ := near_of hz
    obtain ⟨⟨as, r1⟩, ⟨bs, r2⟩, c1, c2⟩ := two_read I rx ry (le_ED.le _ H _ _ _ ha) (le_ED.le _ H _ _ _ hb) n1 n2
    exact SeqAt.compareNe_reads r1 r2 c1 c2 (by omega) ⟨.bl _, H, I, rfl, p _ H (Same.refl H) (.bl _)⟩
  · simp only [Post, PostA, dNe, if_neg hz] at p
theorem bool_dEq {a b d : D} (h : dEq a b = .ok d) : ∃ k, d = .bool k := by
  unfold dEq at h; split at h <;> cases h; exact ⟨_, rfl⟩
theorem bool_dNe {a b d : D} (h : dNe a b = .ok d) : ∃ k, d = .bool k := by
  unfold dNe at h; split at h <;> cases h; exact ⟨_, rfl⟩
def isNone : D → Bool
  | .none => true
  | _ => false
/-- two things that can be ordered -/
def ordOk (a b : D) : Bool := PySem.W.alike a b && !isNone a && decide (min a.depth b.depth ≤ 64)
def dLt (a b : D) : R D := if ordOk a b = true then .ok (.bool (PySem.W.dataLt a b)) else .bad
def dGt (a b : D) : R D := if ordOk a b = true then .ok (.bool (PySem.W.dataLt b a)) else .bad
def dLe (a b : D) : R D := if ordOk a b = true then .ok (.bool (!PySem.W.dataLt b a)) else .bad
def dGe (a b : D) : R D := if ordOk a b = true then .ok (.bool (!PySem.W.dataLt a b)) else .bad
theorem bool_dLt {a b d : D} (h : dLt a b = .ok d) : ∃ k, d = .bool k := by
  unfold dLt at h; split at h <;> cases h; exact ⟨_, rfl⟩
theorem bool_dGt {a b d : D} (h : dGt a b = .ok d) : ∃ k, d = .bool k := by
  unfold dGt at h; split at h <;> cases h; exact ⟨_, rfl⟩
theorem bool_dLe {a b d : D} (h : dLe a b = .ok d) : ∃ k, d = .bool k := by
  unfold dLe at h; split at h <;> cases h; exact ⟨_, rfl⟩
theorem bool_dGe {a b d : D} (h : dGe a b = .ok d) : ∃ k, d = .bool k := by
  unfold dGe at h; split at h <;> cases h; exact ⟨_, rfl⟩
theorem ordOk_of {a b : D} (h : ordOk a b = true) : PySem.W.alike a b = true ∧ a ≠ .none ∧ min a.depth b.depth ≤ 64 ∧ isDict a = false ∧ isDict b = false := by
  unfold ordOk at h
  simp only [Bool.and_eq_true, Bool.not_eq_true', decide_eq_true_eq] at h
  refine ⟨h.1.1, ?_, h.2, ?_, ?_⟩
  · rintro rfl; exact absurd h.1.2 (by decide)
  · cases a <;> first | rfl | (cases b <;> exact absurd h.1.1 (by simp [PySem.W.alike]))
  · cases b <;> first | rfl | (cases a <;> exact absurd h.1.1 (by simp [PySem.W.alike]))
theorem ord_of {op : CmpOp} {g : D → D → Bool} (hu : X.A.units + 64 < cLine)
    (rule : ∀ {s : Shared} {a b : Value} {da db : D} {as bs : List Addr} {Q : Value → Shared → Prop}, Reads s.heap a da as → Reads s.heap b db bs → PySem.W.alike da db = true → da ≠ .none → X.A.units + min da.depth db.depth < cLine → Q (.bool (g da db)) s →
      wpAny (model X.prog X.w) X.A (compareOp op a b) Q X.xe s) : DOp X W (compareOp op) (fun a b => if ordOk a b = true then .ok (.bool (g a b)) else .bad) rE rE rI := by
  intro pins s σ H x y v u a b Q I rx ry ha hb p
  by_cases hz : ordOk a b = true
  · simp only [Post, PostA, if_pos hz] at p
    obtain ⟨n1, n2, n3, n4, n5⟩ := ordOk_of hz
    obtain ⟨⟨as, r1⟩, ⟨bs, r2⟩, c1, c2⟩ := two_read I rx ry (le_ED.le _ H _ _ _ ha) (le_ED.le _ H _ _ _ hb) n4 n5
    exact rule r1 r2 n1 n2 (by omega) ⟨.bl _, H, I, rfl, p _ H (Same.refl H) (.bl _)⟩
  · simp only [Post, PostA, if_neg hz] at p
theorem do_lt (hu : X.A.units + 64 < cLine) : DOp X W (compareOp .Lt) dLt rE rE rI := ord_of hu fun h1 h2 h3 h4 h5 h6 => PySem.W.lt_data h1 h2 h3 h4 h5 h6
theorem do_gt (hu : X.A.units + 64 < cLine) : DOp X W (compareOp .Gt) dGt rE rE rI := ord_of hu fun h1 h2 h3 h4 h5 h6 => PySem.W.gt_data h1 h2 h3 h4 h5 h6
theorem do_le (hu : X.A.units + 64 < cLine) : DOp X W (compareOp .LtE) dLe rE rE rI := ord_of hu fun h1 h2 h3 h4 h5 h6 => PySem.W.le_data h1 h2 h3 h4 h5 h6
theorem do_ge (hu : X.A.units + 64 < cLine) : DOp X W (compareOp .GtE) dGe rE rE rI := ord_of hu fun h1 h2 h3 h4 h5 h6 => PySem.W.ge_data h1 h2 h3 h4 h5 h6
/-- is: None, or two truths -/
def dIs : D → D → R D
  | a, .none => .ok (.bool (isNone a))
  | .bool p, .bool q => .ok (.bool (p == q))
  | _, _ => .bad
def dIsNot : D → D → R D
  | a, .none => .ok (.bool (!isNone a))
  | .bool p, .bool q => .ok (.bool (!(p == q)))
  | _, _ => .bad
theorem bool_dIs {a b d : D} (h : dIs a b = .ok d) : ∃ k, d = .bool k := by
  cases a <;> cases b <;> cases h <;> exact ⟨_, rfl⟩
theorem bool_dIsNot {a b d : D} (h : dIsNot a b = .ok d) : ∃ k, d = .bool k := by
  cases a <;> cases b <;> cases h <;> exact ⟨_, rfl⟩
theorem isNone_v {K : PySem.W.Frag} {H H' : Hp} {x : V} {a : D} (h : rE K H H' x a) : decide (x = .non) = isNone a := by
  cases a with
  | none => rw [rE_none h]; rfl
  | bool b => rw [rE_bool h]; rfl
  | int i => rw [rE_int h]; rfl
  | str y => rw [(rE_str h).1]; rfl
  | list ds => obtain ⟨a, xs, rfl, _⟩ := rE_list h; rfl
  | tuple ds => obtain ⟨a, xs, rfl, _⟩ := rE_tup h; rfl
  | dict kvs => obtain ⟨a, rfl, _⟩ := rD_dict (le_ED.le _ H _ _ _ h); rfl
theorem dec_bb (p q : Bool) : decide (p = q) = (p == q) := by cases p <;> cases q <;> rfl
theorem do_is : DOp X W (compareOp .Is) dIs rE rE rI := by
  intro pins s σ H x y v u a b Q I rx ry ha hb p
  cases b with
  | none =>
    have e : dIs a .none = .ok (.bool (isNone a)) := by cases a <;> rfl
    rw [e] at p
    refine op_isN pins s σ H x y v u Q I rx ry ⟨rE_none hb, ?_⟩
    rw [isNone_v ha]
    exact p _ H (Same.refl H) (.bl _)
  | bool q =>
    cases a <;> try exact p.elim
    exact op_isBl pins s σ H x y v u Q I rx ry ⟨_, _, rE_bool ha, rE_bool hb, by rw [dec_bb]; exact p _ H (Same.refl H) (.bl _)⟩
  | _ => cases a <;> exact p.elim
theorem do_isNot : DOp X W (compareOp .IsNot) dIsNot rE rE rI := by
  intro pins s σ H x y v u a b Q I rx ry ha hb p
  cases b with
  | none =>
    have e : dIsNot a .none = .ok (.bool (!isNone a)) := by cases a <;> rfl
    rw [e] at p
    refine op_notN pins s σ H x y v u Q I rx ry ⟨rE_none hb, ?_⟩
    rw [isNone_v ha]
    exact p _ H (Same.refl H) (.bl _)
  | bool q =>
    cases a <;> try exact p.elim
    exact op_notBl pins s σ H x y v u Q I rx ry ⟨_, _, rE_bool ha, rE_bool hb, by rw [dec_bb]; exact p _ H (Same.refl H) (.bl _)⟩
  | _ => cases a <;> exact p.elim
end
end PL
set_option Elab.async false
set_option linter.all false
set_option maxRecDepth 100000
set_option maxHeartbeats 1000000
/-! PL5: in, displays, items, slices, calls of built-ins. -/
namespace PL
open PySem PySem.Spec PyProof.Rows L2

/-! ### in: over lists, tuples, within a text -/
def anyEq (xs : List D) (d : D) : Bool := xs.any fun y => PyData.eqv y d
def dInP (a c : D) : R Bool :=
  match c with
  | .list xs => if isDict a = false ∧ min (PyData.depthAll xs) a.depth ≤ 64 then .ok (anyEq xs a) else .bad
  | .tuple xs => if isDict a = false ∧ min (PyData.depthAll xs) a.depth ≤ 64 then .ok (anyEq xs a) else .bad
  | .str y => match a with
    | .str x => .ok (!(Builtin.Str.occurrences y x 0 y.length 1).isEmpty)
    | _ => .bad
  | _ => .bad
def dIn (a c : D) : R D := (dInP a c).bind fun k => .ok (.bool k)
def dNotIn (a c : D) : R D := (dInP a c).bind fun k => .ok (.bool (!k))
theorem bool_bind {r : R Bool} {g : Bool → Bool} {d : D} (h : (r.bind fun k => R.ok (PyData.bool (g k))) = .ok d) : ∃ k, d = .bool k := by
  cases r <;> cases h; exact ⟨_, rfl⟩
theorem bool_dIn {a b d : D} (h : dIn a b = .ok d) : ∃ k, d = .bool k := bool_bind (g := id) h
theorem bool_dNotIn {a b d : D} (h : dNotIn a b = .ok d) : ∃ k, d = .bool k := bool_bind (g := not) h
section
variable {X : Cx} {W : XK} {pins : List (Addr × Obj)} {s : Shared} {σ : L2.St} {H : Hp}
theorem two_in {x y : V} {v u : Value} {a b : D} (I : Inv X pins σ H s) (rx : RelV x v) (ry : RelV y u) (ha : rE X.K H H x a) (hb : rD X.K H H y b) (na : isDict a = false) (nb : isDict b = false) :
    (∃ as, Reads s.heap v a as) ∧ (∃ bs, Reads s.heap u b bs) ∧ a.canLay0 = true ∧ b.canLay0 = true := two_read I rx ry (le_ED.le _ H _ _ _ ha) hb na nb
theorem do_in (hu : X.A.units + 65 < cLine) : DOp X W (compareOp .In) dIn rE rD rI := by
  intro pins s σ H x y v u a b Q I rx ry ha hb p
  unfold dIn dInP at p
  cases b <;> try exact p.elim
  · rename_i z
    cases a <;> try exact p.elim
    exact op_in_str pins s σ H x y v u Q I rx ry ⟨_, _, (rE_str ha).1, (rD_str hb).1, p _ H (Same.refl H) (.bl _)⟩
  · rename_i xs
    by_cases hz : isDict a = false ∧ min (PyData.depthAll xs) a.depth ≤ 64
    · simp only [if_pos hz] at p
      obtain ⟨⟨as, r1⟩, ⟨bs, r2⟩, c1, c2⟩ := two_in I rx ry ha hb hz.1 rfl
      exact SeqAt.in_list_reads r2 r1 (by simpa [PyData.canLay0] using c2) c1 (by omega) ⟨.bl _, H, I, rfl, p _ H (Same.refl H) (.bl _)⟩
    · simp only [if_neg hz] at p; exact p.elim
  · rename_i xs
    by_cases hz : isDict a = false ∧ min (PyData.depthAll xs) a.depth ≤ 64
    · simp only [if_pos hz] at p
      obtain ⟨⟨as, r1⟩, ⟨bs, r2⟩, c1, c2⟩ := two_in I rx ry ha hb hz.1 rfl
      exact SeqAt.in_tuple_reads r2 r1 (by simpa [PyData.canLay0] using c2) c1 (by omega) ⟨.bl _, H, I, rfl, p _ H (Same.refl H) (.bl _)⟩
    · simp only [if_neg hz] at p; exact p.elim
theorem do_notIn (hu : X.A.units + 65 < cLine) : DOp X W (compareOp .NotIn) dNotIn rE rD rI := by
  intro pins s σ H x y v u a b Q I rx ry ha hb p
  unfold dNotIn dInP at p
  cases b <;> try exact p.elim
  · rename_i z
    cases a <;> try exact p.elim
    exact L2.op_notIn_str pins s σ H x y v u Q I rx ry ⟨_, _, (rE_str ha).1, (rD_str hb).1, p _ H (Same.refl H) (.bl _)⟩
  · rename_i xs
    by_cases hz : isDict a = false ∧ min (PyData.depthAll xs) a.depth ≤ 64
    · simp only [if_pos hz] at p
      obtain ⟨⟨as, r1⟩, ⟨bs, r2⟩, c1, c2⟩ := two_in I rx ry ha hb hz.1 rfl
      exact SeqAt.notIn_list_reads r2 r1 (by simpa [PyData.canLay0] using c2) c1 (by omega) ⟨.bl _, H, I, rfl, p _ H (Same.refl H) (.bl _)⟩
    · simp only [if_neg hz] at p; exact p.elim
  · rename_i xs
    by_cases hz : isDict a = false ∧ min (PyData.depthAll xs) a.depth ≤ 64
    · simp only [if_pos hz] at p
      obtain ⟨⟨as, r1⟩, ⟨bs, r2⟩, c1, c2⟩ := two_in I rx ry ha hb hz.1 rfl
      exact SeqAt.notIn_tuple_reads r2 r1 (by simpa [PyData.canLay0] using c2) c1 (by omega) ⟨.bl _, H, I, rfl, p _ H (Same.refl H) (.bl _)⟩
    · simp only [if_neg hz] at p; exact p.elim
end

/-! ### arguments, displays -/
def tA (K : PySem.W.Frag) (mg : Str → Option Value) (H0 : Hp) (W : XK) (κ : Kds) (fs : Env → R (List D)) : TA := fun σ H Q => ∃ τ, Rep K H0 H κ σ τ ∧ PostA mg W H (fs τ) fun ds => ∀ vs H', Same H H' → ImAll K H' vs ds → Q vs H'
structure DA (X : Cx) (H0 : Hp) (W : XK) (κ : Kds) (es : List Expr) (fs : Env → R (List D)) (n : Nat) : Prop where
  pa : PA X es (tA X.K X.mg H0 W κ fs)
  len : ∀ τ ds, fs τ = .ok ds → ds.length = n
theorem _root_.L2.PA.cons' {X : Cx} {es : List Expr} {t t' : TA} (h : PA X es t) (i : ∀ σ H Q, t' σ H Q → t σ H Q) : PA X es t' :=
  ⟨fun pos pins s σ H Q I z => h.run pos pins s σ H Q I (i σ H Q z)⟩
def fNil : Env → R (List D) := fun _ => .ok []
def fCons (f : Env → R D) (fs : Env → R (List D)) : Env → R (List D) := fun τ => (f τ).bind fun d => (fs τ).bind fun ds => .ok (d :: ds)
def fTup (fs : Env → R (List D)) : Env → R D := fun τ => (fs τ).bind fun ds => .ok (.tuple ds)
def fLst (fs : Env → R (List D)) : Env → R D := fun τ => (fs τ).bind fun ds => .ok (.list ds)
section
variable {X : Cx} {H0 : Hp} {W : XK} {κ : Kds} {ρ : Res} {e a b c : Expr} {es : List Expr} {f fa fb fc : Env → R D} {fs : Env → R (List D)} {n : Nat} {pos : Pos}
theorem da_nil : DA X H0 W κ [] fNil 0 :=
  ⟨pa_nil.cons' fun σ H Q ⟨τ, r, p⟩ => p [] H (Same.refl H) .nil, fun τ ds e => by cases e; rfl⟩
theorem da_cons (ha : DE X H0 W κ rI e f) (hr : DA X H0 W κ es fs n) (hs : starEach (e :: es) X.env = (false, eval e X.env) :: starEach es X.env := by rfl) : DA X H0 W κ (e :: es) (fCons f fs) (n + 1) :=
  ⟨(pa_cons ha.pe hr.pa hs).cons' fun σ H Q ⟨τ, r, p⟩ => ⟨τ, r, PostA.imp (PostA.bind p) fun d pd v H1 s1 hv => ⟨τ, r.to s1, PostA.imp (PostA.bind (PostA.to pd s1)) fun ds pds vs H2 s2 hvs =>
    pds (v :: vs) H2 (s1.trans s2) (.cons (hv.mono (Same.pers s2)) hvs)⟩⟩,
   fun τ ds e => by
    unfold fCons at e
    cases h1 : f τ with
    | ok d =>
      rw [h1, R.bind_ok] at e
      cases h2 : fs τ with
      | ok r => rw [h2] at e; cases e; exact congrArg (· + 1) (hr.len τ r h2)
      | err n => rw [h2] at e; cases e
      | bad => rw [h2] at e; cases e
    | err n => rw [h1] at e; cases e
    | bad => rw [h1] at e; cases e⟩
theorem de_tup {k : Nat} (h : DA X H0 W κ es fs n) (hn : n ≤ 1000 := by decide) : DE X H0 W κ rI (.Tuple es k pos) (fTup fs) :=
  ⟨(pe_tup h.pa).cons fun σ H Q ⟨τ, r, p⟩ => ⟨τ, r, PostA.imp' (PostA.bind p) fun ds e pd vs H1 s1 hvs => by
    have l1 := hvs.length
    have l2 := h.len τ ds e
    refine ⟨Nat.le_of_lt (small1000 (by omega)), fun q nq => pd _ _ (same_put s1 (s1.free nq)) (im_tup_new nq hvs (by rw [l2]; exact Nat.le_of_lt (small1000 hn)))⟩⟩⟩
theorem de_lst (h : DA X H0 W κ es fs n) (hn : n ≤ 1000 := by decide) : DE X H0 W κ rN (.List es pos) (fLst fs) :=
  ⟨(pe_lst h.pa).cons fun σ H Q ⟨τ, r, p⟩ => ⟨τ, r, PostA.imp' (PostA.bind p) fun ds e pd vs H1 s1 hvs => by
    have l1 := hvs.length
    have l2 := h.len τ ds e
    refine ⟨Nat.le_of_lt (small1000 (by omega)), fun q nq => pd _ _ (same_put s1 (s1.free nq)) ⟨q, _, rfl, rfl, s1.free nq, .lst upd_same (by rw [l2]; exact Nat.le_of_lt (small1000 hn)) (hvs.mono (Same.pers (same_upd nq)))⟩⟩⟩⟩
/-! ### items -/
/-- the item at a place, counted from behind where it is negative -/
def dItem : D → D → R D
  | .list xs, .int i => match atI xs i with | some d => .ok d | _ => .bad
  | .tuple xs, .int i => match atI xs i with | some d => .ok d | _ => .bad
  | .str z, .int i => match atI z.cps.toList i with | some c => .ok (.str ⟨#[c]⟩) | _ => .bad
  | _, _ => .bad
theorem ImAll.atI {K : PySem.W.Frag} {H : Hp} {xs : List V} {ds : List D} {i : Int} {d : D} (h : ImAll K H xs ds) (e : atI ds i = some d) : ∃ v, L2.atI xs i = some v ∧ Im K H v d := by
  unfold L2.atI at *
  rw [h.length]
  cases q : ixN ds.length i with
  | none => rw [q] at e; cases e
  | some j => rw [q] at e; exact h.get e
def rIxD (K : PySem.W.Frag) (mg : Str → Option Value) (W : XK) : R2 := fun x y H Q => ∃ a b, rD K H H x a ∧ rE K H H y b ∧ Post K mg W rI H Q (dItem a b)
theorem sOk_one {z : Str} {c : Nat} (h : sOk z = true) (hc : c ∈ z.cps.toList) : sOk ⟨#[c]⟩ = true := by
  refine Bool.and_eq_true_iff.mpr ⟨?_, decide_eq_true (show 1 ≤ sizeLine by decide)⟩
  have h := sOk_ok h
  unfold PyData.strOk at *
  have := Array.all_eq_true'.mp h c (by simpa using hc)
  simp only [List.all_toArray, List.all_cons, List.all_nil, Bool.and_true]
  exact this
theorem ix_d : IxR X (rIxD X.K X.mg W) := by
  intro value slice pins s σ H x y v u Q I rx ry ⟨a, b, ha, hb, p⟩ hs
  cases b <;> try (cases a <;> exact p.elim)
  rename_i i
  have ei := rE_int hb
  subst ei
  cases a <;> try exact p.elim
  · rename_i z
    simp only [dItem] at p
    cases q : atI z.cps.toList i with
    | none => simp only [q] at p; exact p.elim
    | some c =>
      simp only [q] at p
      obtain ⟨rfl, o1⟩ := rD_str ha
      refine ix_str value slice pins s σ H _ _ v u Q I rx ry ⟨z, i, c, rfl, rfl, sOk_len o1, q, p _ H (Same.refl H) (.str _ (sOk_one o1 ?_))⟩ hs
      unfold L2.atI at q
      cases q2 : ixN z.cps.toList.length i with
      | none => rw [q2] at q; cases q
      | some j => rw [q2] at q; exact List.mem_of_getElem? q
  · rename_i ds
    simp only [dItem] at p
    cases q : atI ds i with
    | none => simp only [q] at p; exact p.elim
    | some d =>
      simp only [q] at p
      obtain ⟨l, xs, rfl, r1, i1, z1⟩ := rD_list ha
      obtain ⟨w, h1, h2⟩ := i1.atI q
      exact ix_list value slice pins s σ H _ _ v u Q I rx ry ⟨l, xs, i, w, rfl, rfl, r1, h1, p w H (Same.refl H) h2⟩ hs
  · rename_i ds
    simp only [dItem] at p
    cases q : atI ds i with
    | none => simp only [q] at p; exact p.elim
    | some d =>
      simp only [q] at p
      obtain ⟨l, xs, rfl, r1, i1, z1⟩ := rD_tup ha
      obtain ⟨w, h1, h2⟩ := i1.atI q
      exact ix_tup value slice pins s σ H _ _ v u Q I rx ry ⟨l, xs, i, w, rfl, rfl, r1, h1, p w H (Same.refl H) h2⟩ hs
theorem de_ix (ha : DE X H0 W κ rD a fa) (hb : DE X H0 W κ rE b fb) (hs : PlainIx b := by intro _ _; rfl) : DE X H0 W κ rI (.Subscript a b pos) (f2 dItem fa fb) :=
  ⟨(pe_ix (ix_d (W := W)) ha.pe hb.pe hs).cons fun σ H Q ⟨τ, r, p⟩ => ⟨τ, r, PostA.imp (PostA.bind p) fun a pa x H1 s1 ha => ⟨τ, r.to s1, PostA.imp (PostA.bind (PostA.to pa s1)) fun b pb y H2 s2 hb =>
    ⟨a, b, rD.same s2 ha, hb, PostA.imp (PostA.to pb s2) fun d k v H' s3 q => k v H' ((s1.trans s2).trans s3) q⟩⟩⟩⟩

/-! ### slices -/
def cut {α : Type} (xs : List α) (lo hi : Option Int) : List α := (xs.drop (HT.sIx xs.length 0 lo)).take (HT.sIx xs.length xs.length hi - HT.sIx xs.length 0 lo)
theorem cut_len {α : Type} (xs : List α) (lo hi : Option Int) : (cut xs lo hi).length ≤ xs.length := by
  unfold cut
  rw [List.length_take, List.length_drop]
  omega
theorem ImAll.cut {K : PySem.W.Frag} {H : Hp} {xs : List V} {ds : List D} (h : ImAll K H xs ds) (lo hi : Option Int) : ImAll K H (cutV xs lo hi) (PL.cut ds lo hi) := by
  unfold cutV PL.cut
  rw [h.length]
  exact (h.drop _).take _
def dSlice : D → Option Int → Option Int → R D
  | .list xs, lo, hi => .ok (.list (cut xs lo hi))
  | .tuple xs, lo, hi => .ok (.tuple (cut xs lo hi))
  | _, _, _ => .bad
def rSlD (K : PySem.W.Frag) (mg : Str → Option Value) (W : XK) : V → Option Int → Option Int → Hp → VK → Prop := fun x lo hi H Q => ∃ a, rE K H H x a ∧ Post K mg W rQ H Q (dSlice a lo hi)
theorem sl_d : SlR X (rSlD X.K X.mg W) := by
  intro pins s σ H x v vl vu lo hi sl Q I rx hs pl pu ⟨a, ha, p⟩
  cases a <;> try exact p.elim
  · rename_i ds
    obtain ⟨l, xs, rfl, r1, i1, z1⟩ := rE_list ha
    exact sl_list pins s σ H _ v vl vu lo hi sl Q I rx hs pl pu ⟨l, xs, rfl, .inl r1, fun q n => p _ _ (same_upd n) (N_Q ⟨q, _, rfl, rfl, n, .lst upd_same (Nat.le_trans (cut_len _ _ _) z1) ((i1.cut lo hi).mono (Same.pers (same_upd n)))⟩)⟩
  · rename_i ds
    obtain ⟨l, xs, rfl, r1, i1, z1⟩ := rE_tup ha
    refine sl_tupA pins s σ H _ v vl vu lo hi sl Q I rx hs pl pu ⟨l, xs, rfl, r1, fun hw => ?_, fun _ q n => p _ _ (same_upd n) (.inl (im_tup_new n (i1.cut lo hi) (Nat.le_trans (cut_len _ _ _) z1)))⟩
    have e : cut ds lo hi = ds := by
      unfold cut
      rw [← i1.length, hw.1, hw.2, i1.length]
      simp
    have p' : ∀ v H', Same H H' → rQ X.K H H' v (.tuple (cut ds lo hi)) → Q v H' := p
    rw [e] at p'
    exact p' _ H (Same.refl H) (.inl (rE_tupI ha))
def tO (K : PySem.W.Frag) (mg : Str → Option Value) (H0 : Hp) (W : XK) (κ : Kds) (f : Env → R (Option Int)) : TO := fun σ H Q => ∃ τ, Rep K H0 H κ σ τ ∧ PostA mg W H (f τ) fun o => ∀ H', Same H H' → Q o H'
structure DO (X : Cx) (H0 : Hp) (W : XK) (κ : Kds) (e : Option Expr) (f : Env → R (Option Int)) : Prop where
  po : PO X e (tO X.K X.mg H0 W κ f)
theorem _root_.L2.PO.cons {e : Option Expr} {t t' : TO} (h : PO X e t) (i : ∀ σ H Q, t' σ H Q → t σ H Q) : PO X e t' :=
  ⟨fun pins s σ H Q I z => h.run pins s σ H Q I (i σ H Q z)⟩
def oNone : Env → R (Option Int) := fun _ => .ok none
def dPart : D → R (Option Int)
  | .int i => .ok (some i)
  | _ => .bad
def oSome (f : Env → R D) : Env → R (Option Int) := fun τ => (f τ).bind dPart
theorem do_none : DO X H0 W κ none oNone := ⟨po_none.cons fun σ H Q ⟨τ, r, p⟩ => p H (Same.refl H)⟩
theorem do_some (h : DE X H0 W κ rE e f) : DO X H0 W κ (some e) (oSome f) :=
  ⟨(po_some h.pe).cons fun σ H Q ⟨τ, r, p⟩ => ⟨τ, r, PostA.imp (PostA.bind p) fun d pd v H1 s1 hv => by
    cases d <;> try exact pd.elim
    exact ⟨_, rE_int hv, pd H1 s1⟩⟩⟩
def fSl (f : Env → R D) (fl fh : Env → R (Option Int)) : Env → R D := fun τ => (f τ).bind fun d => (fl τ).bind fun l => (fh τ).bind fun h => dSlice d l h
theorem de_slice {lo hi : Option Expr} {fl fh : Env → R (Option Int)} {p2 : Pos} (he : DE X H0 W κ rE e f) (hl : DO X H0 W κ lo fl) (hh : DO X H0 W κ hi fh) : DE X H0 W κ rQ (.Subscript e (.Slice lo hi none p2) pos) (fSl f fl fh) :=
  ⟨(pe_slice (sl_d (W := W)) he.pe hl.po hh.po).cons fun σ H Q ⟨τ, r, p⟩ => ⟨τ, r, PostA.imp (PostA.bind p) fun a pa x H1 s1 ha => ⟨τ, r.to s1, PostA.imp (PostA.bind (PostA.to pa s1)) fun l pl H2 s2 =>
    ⟨τ, (r.to s1).to s2, PostA.imp (PostA.bind (PostA.to pl s2)) fun h ph H3 s3 => ⟨a, stay_E.to _ _ _ _ _ _ _ (s2.trans s3) ha,
      PostA.imp (PostA.to ph s3) fun d k v H' s4 q => k v H' (((s1.trans s2).trans s3).trans s4) (good_Q.anti _ _ _ _ _ _ ((s1.trans s2).trans s3) q)⟩⟩⟩⟩⟩
/-- the own list of a slice -/
theorem de_rev {k : Nat} {p1 p2 p3 : Pos} (he : DE X H0 W κ rE e f) : DE X H0 W κ rQ (.Subscript e (.Slice none none (some (.UnaryOp .USub (.Constant (.int 1) k p1) p2)) p3) pos)
    (fun τ => (f τ).bind fun d => match d with | .list xs => .ok (.list xs.reverse) | _ => .bad) :=
  ⟨(pe_revL he.pe).cons fun σ H Q ⟨τ, r, p⟩ => ⟨τ, r, PostA.imp (PostA.bind p) fun d pd x H1 s1 hx => by
    cases d <;> try exact pd.elim
    obtain ⟨l, xs, rfl, r1, i1, z1⟩ := rE_list hx
    exact ⟨l, xs, rfl, .inl r1, fun q n => pd _ _ (same_put s1 (s1.free n)) (N_Q ⟨q, _, rfl, rfl, s1.free n, .lst upd_same (by rw [List.length_reverse]; exact z1) (i1.reverse.mono (Same.pers (same_upd n)))⟩)⟩⟩⟩
end
end PL
set_option Elab.async false
set_option linter.all false
set_option maxRecDepth 100000
set_option maxHeartbeats 1000000
/-! PL6: calls of built-ins and of defs. -/
namespace PL
open PySem PySem.Spec PyProof.Rows L2

/-! ### one argument -/
def DC1 (X : Cx) (W : XK) (f : Value) (g : D → R D) (ρa ρ : Res) : Prop :=
  ∀ (pins : List (Addr × Obj)) (s : Shared) (σ : L2.St) (H : Hp) (x : V) (v : Value) (a : D) (Q : VK), Inv X pins σ H s → RelV x v → ρa X.K H H x a → Post X.K X.mg W ρ H Q (g a) →
    wpAny (model X.prog X.w) X.A (call f [v]) (EP X pins σ Q) X.xe s
def rC1 (K : PySem.W.Frag) (mg : Str → Option Value) (W : XK) (g : D → R D) (ρa ρ : Res) : List V → Hp → VK → Prop := fun xs H Q => ∃ x a, xs = [x] ∧ ρa K H H x a ∧ Post K mg W ρ H Q (g a)
section
variable {X : Cx} {H0 : Hp} {W : XK} {κ : Kds} {ρ ρa : Res} {e a b c : Expr} {es : List Expr} {f fa fb fc : Env → R D} {fs : Env → R (List D)} {n : Nat} {pos p : Pos} {g : D → R D} {x : Str} {bn T : String}
theorem DC1.callR {f : Value} (h : DC1 X W f g ρa ρ) : CallR X f (rC1 X.K X.mg W g ρa ρ) := fun pins s σ H xs us Q I r ⟨x, a, e, ha, q⟩ => by
  subst e
  obtain ⟨u, rfl, rx⟩ := vals1 r
  exact h pins s σ H x u a Q I rx ha q
theorem tCB1 (ka : ρa.Stay) (hρ : ρ.Good) {σ : L2.St} {H : Hp} {Q : VK} (h : tD X.K X.mg H0 W κ ρ (f1 g fa) σ H Q) : tCB (rC1 X.K X.mg W g ρa ρ) (tCons (tD X.K X.mg H0 W κ ρa fa) tNil) σ H Q := by
  obtain ⟨τ, r, q⟩ := h
  exact ⟨τ, r, PostA.imp (PostA.bind q) fun d pd v H1 s1 hv => ⟨v, d, rfl, ka.to _ _ _ _ _ _ _ (Same.refl H1) hv, Post.to hρ pd s1⟩⟩
theorem de_b1 (hc : DC1 X W (.builtin bn) g ρa ρ) (ka : ρa.Stay) (hρ : ρ.Good) (hg : Gl X x) (hm : X.mg x = none) (hv : bootBuiltins x = some (.builtin bn)) (ha : DE X H0 W κ ρa a fa) (hn : x ≠ "__name__" := by decide) (hdb : (x == ("__debug__" : Str)) = false := by decide)
    (he : starEach [a] X.env = (false, eval a X.env) :: starEach [] X.env := by rfl) (hpl : (backTo pos (starEach [] X.env)).any (·.1) = false := by rfl) : DE X H0 W κ ρ (.Call (.Name x p) [a] [] pos) (f1 g fa) :=
  ⟨(pe_callB hc.callR hg hm hv (pa_cons ha.pe pa_nil he) hn hdb he hpl).cons fun _ _ _ h => tCB1 ka hρ h⟩
theorem de_t1 (hc : DC1 X W (.type T) g ρa ρ) (ka : ρa.Stay) (hρ : ρ.Good) (hg : Gl X x) (hm : X.mg x = none) (hv : bootBuiltins x = some (.type T)) (ha : DE X H0 W κ ρa a fa) (hn : x ≠ "__name__" := by decide) (hdb : (x == ("__debug__" : Str)) = false := by decide)
    (he : starEach [a] X.env = (false, eval a X.env) :: starEach [] X.env := by rfl) (hpl : (backTo pos (starEach [] X.env)).any (·.1) = false := by rfl) : DE X H0 W κ ρ (.Call (.Name x p) [a] [] pos) (f1 g fa) :=
  ⟨(pe_callTy hc.callR hg hm hv (pa_cons ha.pe pa_nil he) hn hdb he hpl).cons fun _ _ _ h => tCB1 ka hρ h⟩

/-! len, tuple, list, int, bool, any, all, sum -/
def dLen : D → R D
  | .str z => .ok (.int z.length)
  | .list xs => .ok (.int xs.length)
  | .tuple xs => .ok (.int xs.length)
  | _ => .bad
theorem dc_len : DC1 X W (.builtin "len") dLen rD rI := by
  intro pins s σ H x v a Q I rx ha q
  cases a <;> try exact q.elim
  · obtain ⟨rfl, o⟩ := rD_str ha
    exact call_len pins s σ H _ _ Q I (.cons rx .nil) ⟨_, _, rfl, ⟨sOk_len o, rfl⟩, q _ H (Same.refl H) (.int _)⟩
  · obtain ⟨l, xs, rfl, r1, i1, z1⟩ := rD_list ha
    exact call_len pins s σ H _ _ Q I (.cons rx .nil) ⟨_, _, rfl, .inl ⟨xs, r1, rfl⟩, by rw [i1.length]; exact q _ H (Same.refl H) (.int _)⟩
  · obtain ⟨l, xs, rfl, r1, i1, z1⟩ := rD_tup ha
    exact call_len pins s σ H _ _ Q I (.cons rx .nil) ⟨_, _, rfl, .inr ⟨xs, r1, rfl⟩, by rw [i1.length]; exact q _ H (Same.refl H) (.int _)⟩
def dTuple : D → R D
  | .list xs => .ok (.tuple xs)
  | .tuple xs => .ok (.tuple xs)
  | _ => .bad
theorem dc_tuple : DC1 X W (.type "tuple") dTuple rE rI := by
  intro pins s σ H x v a Q I rx ha q
  cases a <;> try exact q.elim
  · obtain ⟨l, xs, rfl, r1, i1, z1⟩ := rE_list ha
    exact call_tuple_of pins s σ H _ _ Q I (.cons rx .nil) ⟨l, xs, rfl, .inl ⟨.inl r1, fun y n => q _ _ (same_upd n) (im_tup_new n i1 z1)⟩⟩
  · obtain ⟨l, xs, rfl, r1, i1, z1⟩ := rE_tup ha
    exact call_tuple_of pins s σ H _ _ Q I (.cons rx .nil) ⟨l, xs, rfl, .inr ⟨r1, q _ H (Same.refl H) (rE_tupI ha)⟩⟩
def dList : D → R D
  | .list xs => .ok (.list xs)
  | .tuple xs => .ok (.list xs)
  | _ => .bad
theorem dc_list : DC1 X W (.type "list") dList rD rN := by
  intro pins s σ H x v a Q I rx ha q
  cases a <;> try exact q.elim
  · obtain ⟨l, xs, rfl, r1, i1, z1⟩ := rD_list ha
    exact call_list_of pins s σ H _ _ Q I (.cons rx .nil) ⟨l, xs, rfl, .inl r1, fun y n => q _ _ (same_upd n) ⟨y, _, rfl, rfl, n, .lst upd_same z1 (i1.mono (Same.pers (same_upd n)))⟩⟩
  · obtain ⟨l, xs, rfl, r1, i1, z1⟩ := rD_tup ha
    exact call_list_of pins s σ H _ _ Q I (.cons rx .nil) ⟨l, xs, rfl, .inr r1, fun y n => q _ _ (same_upd n) ⟨y, _, rfl, rfl, n, .lst upd_same z1 (i1.mono (Same.pers (same_upd n)))⟩⟩
def dInt : D → R D
  | .int i => .ok (.int i)
  | .bool k => .ok (.int (if k then 1 else 0))
  | _ => .bad
theorem dc_int : DC1 X W (.type "int") dInt rE rI := by
  intro pins s σ H x v a Q I rx ha q
  cases a <;> try exact q.elim
  · cases rE_bool ha
    exact call_int1 pins s σ H _ _ Q I (.cons rx .nil) (.inr ⟨_, rfl, q _ H (Same.refl H) (.int _)⟩)
  · cases rE_int ha
    exact call_int1 pins s σ H _ _ Q I (.cons rx .nil) (.inl ⟨_, rfl, q _ H (Same.refl H) (.int _)⟩)
def dBool : D → R D
  | .int i => .ok (.bool (i != 0))
  | .bool k => .ok (.bool k)
  | _ => .bad
theorem dc_bool : DC1 X W (.type "bool") dBool rE rI := by
  intro pins s σ H x v a Q I rx ha q
  cases a <;> try exact q.elim
  · cases rE_bool ha
    exact call_bool1 pins s σ H _ _ Q I (.cons rx .nil) (.inr ⟨_, rfl, q _ H (Same.refl H) (.bl _)⟩)
  · cases rE_int ha
    exact call_bool1 pins s σ H _ _ Q I (.cons rx .nil) (.inl ⟨_, rfl, q _ H (Same.refl H) (.bl _)⟩)
/-- the truths that things are, where all are truths -/
def boolsOf : List D → Option (List Bool)
  | [] => some []
  | .bool b :: r => (boolsOf r).map (b :: ·)
  | _ :: _ => none
theorem boolsOf_im {K : PySem.W.Frag} {H : Hp} : ∀ {xs : List V} {ds : List D} {bs : List Bool}, ImAll K H xs ds → boolsOf ds = some bs → xs = bs.map V.bl
  | _, _, _, .nil, e => by cases e; rfl
  | _, _, _, .cons h t, e => by
    cases h <;> try cases e
    rename_i b
    simp only [boolsOf, Option.map_eq_some_iff] at e
    obtain ⟨bs, e1, rfl⟩ := e
    rw [boolsOf_im t e1]; rfl
def dAny : D → R D
  | .list xs => match boolsOf xs with | some bs => .ok (.bool (bs.any id)) | none => .bad
  | _ => .bad
def dAll : D → R D
  | .list xs => match boolsOf xs with | some bs => .ok (.bool (bs.all id)) | none => .bad
  | _ => .bad
theorem dc_any (hc : X.calm = true) : DC1 X W (.builtin "any") dAny rE rI := by
  intro pins s σ H x v a Q I rx ha q
  cases a <;> try exact q.elim
  rename_i ds
  obtain ⟨l, xs, rfl, r1, i1, z1⟩ := rE_list ha
  simp only [dAny] at q
  cases hb : boolsOf ds with
  | none => simp only [hb] at q; exact q.elim
  | some bs =>
    simp only [hb] at q
    have e := boolsOf_im i1 hb
    subst e
    exact cr_any hc pins s σ H _ _ Q I (.cons rx .nil) ⟨l, bs, rfl, .inl r1, q _ H (Same.refl H) (.bl _)⟩
theorem dc_all (hc : X.calm = true) : DC1 X W (.builtin "all") dAll rE rI := by
  intro pins s σ H x v a Q I rx ha q
  cases a <;> try exact q.elim
  rename_i ds
  obtain ⟨l, xs, rfl, r1, i1, z1⟩ := rE_list ha
  simp only [dAll] at q
  cases hb : boolsOf ds with
  | none => simp only [hb] at q; exact q.elim
  | some bs =>
    simp only [hb] at q
    have e := boolsOf_im i1 hb
    subst e
    exact cr_all hc pins s σ H _ _ Q I (.cons rx .nil) ⟨l, bs, rfl, .inl r1, q _ H (Same.refl H) (.bl _)⟩
def intsOf : List D → Option (List Int)
  | [] => some []
  | .int b :: r => (intsOf r).map (b :: ·)
  | _ :: _ => none
theorem intsOf_im {K : PySem.W.Frag} {H : Hp} : ∀ {xs : List V} {ds : List D} {bs : List Int}, ImAll K H xs ds → PL.intsOf ds = some bs → xs = bs.map V.int
  | _, _, _, .nil, e => by cases e; rfl
  | _, _, _, .cons h t, e => by
    cases h <;> try cases e
    rename_i b
    simp only [PL.intsOf, Option.map_eq_some_iff] at e
    obtain ⟨bs, e1, rfl⟩ := e
    rw [intsOf_im t e1]; rfl
def dSum : D → R D
  | .list xs => match intsOf xs with | some bs => .ok (.int bs.sum) | none => .bad
  | _ => .bad
theorem dc_sum (hc : X.calm = true) : DC1 X W (.builtin "sum") dSum rE rI := by
  intro pins s σ H x v a Q I rx ha q
  cases a <;> try exact q.elim
  rename_i ds
  obtain ⟨l, xs, rfl, r1, i1, z1⟩ := rE_list ha
  simp only [dSum] at q
  cases hb : PL.intsOf ds with
  | none => simp only [hb] at q; exact q.elim
  | some bs =>
    simp only [hb] at q
    have e := intsOf_im i1 hb
    subst e
    exact cr_sum hc pins s σ H _ _ Q I (.cons rx .nil) ⟨l, bs, rfl, .inl r1, q _ H (Same.refl H) (.int _)⟩

/-! isinstance -/
/-- the built-in type of data -/
def tyName : D → String
  | .none => "NoneType"
  | .bool _ => "bool"
  | .int _ => "int"
  | .str _ => "str"
  | .list _ => "list"
  | .tuple _ => "tuple"
  | .dict _ => "dict"
theorem tyX_of {K : PySem.W.Frag} {H H' : Hp} {x : V} {d : D} (h : rE K H H' x d) : TyX K H' x (.type (tyName d)) := by
  rcases h with h | ⟨a, rfl, o⟩
  · cases h with
    | non => exact .base .non
    | bl b => exact .base (.bl b)
    | int i => exact .base (.int i)
    | str x _ => exact .base (.str x)
    | lst h _ _ => obtain ⟨o, e⟩ := h; exact .base (.frz e)
    | tup h _ _ => exact .base (.tup h)
    | ftup h _ _ => exact .fTuple h
  · cases o with
    | lst h _ _ => exact .base (.lst h)
    | dK h _ _ => exact .base (.dK h)
    | dT h _ _ => exact .base (.dT h)
def isTy (T : String) : D → Bool
  | .none => T == "NoneType"
  | .bool _ => T == "bool" || T == "int"
  | .int _ => T == "int"
  | .str _ => T == "str"
  | .list _ => T == "list"
  | .tuple _ => T == "tuple"
  | .dict _ => T == "dict"
/-- the answers for the types that are asked -/
def tyAsked (T : String) : Prop := kitB "NoneType" T = some (isTy T .none) ∧ kitB "bool" T = some (isTy T (.bool true)) ∧ kitB "int" T = some (isTy T (.int 0)) ∧ kitB "str" T = some (isTy T (.str (Str.ofString ""))) ∧ kitB "list" T = some (isTy T (.list [])) ∧
  kitB "tuple" T = some (isTy T (.tuple [])) ∧ kitB "dict" T = some (isTy T (.dict []))
theorem asked_str : tyAsked "str" := by unfold tyAsked; decide +kernel
theorem asked_int : tyAsked "int" := by unfold tyAsked; decide +kernel
theorem asked_bool : tyAsked "bool" := by unfold tyAsked; decide +kernel
theorem asked_list : tyAsked "list" := by unfold tyAsked; decide +kernel
theorem asked_tuple : tyAsked "tuple" := by unfold tyAsked; decide +kernel
theorem kit_asked {T : String} (h : tyAsked T) (d : D) : kitB (tyName d) T = some (isTy T d) := by
  obtain ⟨h1, h2, h3, h4, h5, h6, h7⟩ := h
  cases d with
  | none => exact h1
  | bool b => exact h2
  | int i => exact h3
  | str x => exact h4
  | list x => exact h5
  | tuple x => exact h6
  | dict x => exact h7
def dIsi (T : String) : D → R D := fun d => .ok (.bool (isTy T d))
theorem de_isi {T : String} {y : Str} {p2 : Pos} (hT : tyAsked T) (hg : Gl X "isinstance") (hm : X.mg "isinstance" = none) (hg2 : Gl X y) (hm2 : X.mg y = none) (hv2 : bootBuiltins y = some (.type T)) (ha : DE X H0 W κ rE a fa) (hn2 : y ≠ "__name__" := by decide) (hdb2 : (y == ("__debug__" : Str)) = false := by decide)
    (he : starEach [a, .Name y p2] X.env = (false, eval a X.env) :: starEach [.Name y p2] X.env := by rfl) (he2 : starEach [.Name y p2] X.env = (false, eval (.Name y p2) X.env) :: starEach [] X.env := by rfl) (hpl : (backTo pos (starEach [.Name y p2] X.env)).any (·.1) = false := by rfl) :
    DE X H0 W κ rI (.Call (.Name "isinstance" p) [a, .Name y p2] [] pos) (f1 (dIsi T) fa) :=
  ⟨(pe_callB call_isi hg hm PyProof.Rows.boot_isinstance (pa_cons ha.pe (pa_cons (pe_bltn (v := .ty T) hg2 hm2 hv2 rfl hn2 hdb2) pa_nil he2) he) (by decide) (by decide) he hpl).cons fun σ H Q ⟨τ, r, q⟩ =>
    ⟨τ, r, PostA.imp (PostA.bind q) fun d pd v H1 s1 hv => ⟨v, .ty T, _, _, _, rfl, .ty T, tyX_of hv, kit_ty (kit_asked hT d), pd _ H1 s1 (.bl _)⟩⟩⟩
/-- isinstance(x, (S, T)) -/
def dIsi2 (S T : String) : D → R D := fun d => .ok (.bool (isTy S d || isTy T d))
theorem de_isi2 {S T : String} {y z : Str} {p1 p2 p3 : Pos} {k : Nat} (hS : tyAsked S) (hT : tyAsked T) (hg : Gl X "isinstance") (hm : X.mg "isinstance" = none) (hg1 : Gl X y) (hm1 : X.mg y = none) (hv1 : bootBuiltins y = some (.type S)) (hg2 : Gl X z) (hm2 : X.mg z = none) (hv2 : bootBuiltins z = some (.type T))
    (ha : DE X H0 W κ rE a fa) (hn1 : y ≠ "__name__" := by decide) (hdb1 : (y == ("__debug__" : Str)) = false := by decide) (hn2 : z ≠ "__name__" := by decide) (hdb2 : (z == ("__debug__" : Str)) = false := by decide)
    (he : starEach [a, .Tuple [.Name y p1, .Name z p2] k p3] X.env = (false, eval a X.env) :: starEach [.Tuple [.Name y p1, .Name z p2] k p3] X.env := by rfl) (he2 : starEach [.Tuple [.Name y p1, .Name z p2] k p3] X.env = (false, eval (.Tuple [.Name y p1, .Name z p2] k p3) X.env) :: starEach [] X.env := by rfl)
    (he3 : starEach [.Name y p1, .Name z p2] X.env = (false, eval (.Name y p1) X.env) :: starEach [.Name z p2] X.env := by rfl) (he4 : starEach [.Name z p2] X.env = (false, eval (.Name z p2) X.env) :: starEach [] X.env := by rfl)
    (hpl : (backTo pos (starEach [.Tuple [.Name y p1, .Name z p2] k p3] X.env)).any (·.1) = false := by rfl) :
    DE X H0 W κ rI (.Call (.Name "isinstance" p) [a, .Tuple [.Name y p1, .Name z p2] k p3] [] pos) (f1 (dIsi2 S T) fa) :=
  ⟨(pe_callB call_isiT hg hm PyProof.Rows.boot_isinstance (pa_cons ha.pe (pa_cons (pe_tup (pa_cons (pe_bltn (v := .ty S) hg1 hm1 hv1 rfl hn1 hdb1) (pa_cons (pe_bltn (v := .ty T) hg2 hm2 hv2 rfl hn2 hdb2) pa_nil he4) he3)) pa_nil he2) he) (by decide) (by decide) he hpl).cons fun σ H Q ⟨τ, r, q⟩ =>
    ⟨τ, r, PostA.imp (PostA.bind q) fun d pd v H1 s1 hv => ⟨by show 2 ≤ sizeLine; decide, fun tp ntp => ⟨v, tp, [.ty S, .ty T], _, [.type S, .type T], _, rfl, upd_same, .cons (.ty S) (.cons (.ty T) .nil),
      tyX_of (H := H1) (stay_E.to _ H _ _ _ _ _ (same_upd ntp) hv), kitAny_cons (kit_ty (kit_asked hS d)) (r := isTy S d || isTy T d) (fun e => kitAny_cons (kit_ty (kit_asked hT d)) (fun e2 => by rw [e, e2]; exact kitAny_nil) (fun e2 => by rw [e2, Bool.or_true])) (fun e => by rw [e, Bool.true_or]),
      pd _ _ (same_put s1 (s1.free ntp)) (.bl _)⟩⟩⟩⟩
end

/-! ### defs -/
/-- an argument: persistent data, or a kept dict -/
def argR (k : Kd) : Res := match k with
  | .dct => rF
  | _ => rI
inductive Args (K : PySem.W.Frag) (H : Hp) : List Kd → List V → List D → Prop
  | nil : Args K H [] [] []
  | imm {v : V} {d : D} {ks : List Kd} {vs : List V} {ds : List D} : Im K H v d → Args K H ks vs ds → Args K H (.imm :: ks) (v :: vs) (d :: ds)
  | dct {v : V} {d : D} {ks : List Kd} {vs : List V} {ds : List D} : Fd K H v d → Args K H ks vs ds → Args K H (.dct :: ks) (v :: vs) (d :: ds)
theorem Args.len {K : PySem.W.Frag} {H : Hp} {ks : List Kd} {vs : List V} {ds : List D} (h : Args K H ks vs ds) : vs.length = ks.length ∧ ds.length = ks.length := by
  induction h with
  | nil => exact ⟨rfl, rfl⟩
  | imm _ _ ih => exact ⟨congrArg (· + 1) ih.1, congrArg (· + 1) ih.2⟩
  | dct _ _ ih => exact ⟨congrArg (· + 1) ih.1, congrArg (· + 1) ih.2⟩
/-- a def's promise: it comes to what f says -/
def spF (mg : Str → Option Value) (K : PySem.W.Frag) (ks : List Kd) (ρ : Res) (f : List D → R D) : Sp := fun vs H Q E => ∃ ds, Args K H ks vs ds ∧ Post K mg E ρ H Q (f ds)
theorem spF_len {mg : Str → Option Value} {K : PySem.W.Frag} {ks : List Kd} {ρ : Res} {f : List D → R D} : ∀ vs H Q E, spF mg K ks ρ f vs H Q E → vs.length = ks.length := fun vs H Q E ⟨ds, a, _⟩ => a.len.1
def tG (K : PySem.W.Frag) (mg : Str → Option Value) (H0 : Hp) (W : XK) (κ : Kds) (ks : List Kd) (fs : Env → R (List D)) : TA := fun σ H Q => ∃ τ, Rep K H0 H κ σ τ ∧ PostA mg W H (fs τ) fun ds => ∀ vs H', Same H H' → Args K H' ks vs ds → Q vs H'
structure DG (X : Cx) (H0 : Hp) (W : XK) (κ : Kds) (es : List Expr) (ks : List Kd) (fs : Env → R (List D)) : Prop where
  pa : PA X es (tG X.K X.mg H0 W κ ks fs)
section
variable {X : Cx} {H0 : Hp} {W : XK} {κ : Kds} {ρ ρa : Res} {e a b c : Expr} {es : List Expr} {f fa fb fc : Env → R D} {fs : Env → R (List D)} {ks : List Kd} {pos p : Pos} {g : List D → R D} {x : Str}
theorem dg_nil : DG X H0 W κ [] [] fNil := ⟨pa_nil.cons' fun σ H Q ⟨τ, r, q⟩ => q [] H (Same.refl H) .nil⟩
theorem dg_imm (ha : DE X H0 W κ rI e f) (hr : DG X H0 W κ es ks fs) (hs : starEach (e :: es) X.env = (false, eval e X.env) :: starEach es X.env := by rfl) : DG X H0 W κ (e :: es) (.imm :: ks) (fCons f fs) :=
  ⟨(pa_cons ha.pe hr.pa hs).cons' fun σ H Q ⟨τ, r, q⟩ => ⟨τ, r, PostA.imp (PostA.bind q) fun d pd v H1 s1 hv => ⟨τ, r.to s1, PostA.imp (PostA.bind (PostA.to pd s1)) fun ds pds vs H2 s2 hvs =>
    pds (v :: vs) H2 (s1.trans s2) (.imm (hv.mono (Same.pers s2)) hvs)⟩⟩⟩
theorem dg_dct (ha : DE X H0 W κ rF e f) (hr : DG X H0 W κ es ks fs) (hs : starEach (e :: es) X.env = (false, eval e X.env) :: starEach es X.env := by rfl) : DG X H0 W κ (e :: es) (.dct :: ks) (fCons f fs) :=
  ⟨(pa_cons ha.pe hr.pa hs).cons' fun σ H Q ⟨τ, r, q⟩ => ⟨τ, r, PostA.imp (PostA.bind q) fun d pd v H1 s1 hv => ⟨τ, r.to s1, PostA.imp (PostA.bind (PostA.to pd s1)) fun ds pds vs H2 s2 hvs =>
    pds (v :: vs) H2 (s1.trans s2) (.dct (hv.mono (Same.pers s2)) hvs)⟩⟩⟩
def fCall (g : List D → R D) (fs : Env → R (List D)) : Env → R D := fun τ => (fs τ).bind g
variable {k : Nat} {fA : Addr} {fd : FuncData} {ps : List Str}
theorem de_call (F : FnOk X.prog X.w X.K X.mg X.base (L2.CX X.prog X.w) k fA fd ps (spF X.mg X.K ks ρ g)) (hρ : ρ.Good) (hr : Room k X.A) (hg : Gl X x) (hm : X.mg x = some (.ref fA)) (hk : PySem.W.keepIn X.K (.ref fA) = true) (hb : Binds X.K fd ps []) (hx : Passes (L2.CX X.prog X.w) X W)
    (ha : DG X H0 W κ (e :: es) ks fs) (hdb : (x == ("__debug__" : Str)) = false := by decide) (he : starEach (e :: es) X.env = (false, eval e X.env) :: starEach es X.env := by rfl) (hpl : (backTo pos (starEach es X.env)).any (·.1) = false := by rfl) :
    DE X H0 W κ ρ (.Call (.Name x p) (e :: es) [] pos) (fCall g fs) :=
  ⟨(pe_call F hr hg hm hk hb (dvs := []) .nil hx ha.pa hdb he hpl).cons fun σ H Q ⟨τ, r, q⟩ => ⟨τ, r, PostA.imp (PostA.bind q) fun ds pd vs H1 s1 hv => ⟨ds, by rw [List.append_nil]; exact hv, Post.to hρ pd s1⟩⟩⟩
theorem de_call0 (F : FnOk X.prog X.w X.K X.mg X.base (L2.CX X.prog X.w) k fA fd ps (spF X.mg X.K [] ρ g)) (hr : Room k X.A) (hg : Gl X x) (hm : X.mg x = some (.ref fA)) (hk : PySem.W.keepIn X.K (.ref fA) = true) (hb : Binds X.K fd ps []) (hx : Passes (L2.CX X.prog X.w) X W)
    (hdb : (x == ("__debug__" : Str)) = false := by decide) : DE X H0 W κ ρ (.Call (.Name x p) [] [] pos) (fCall g fNil) :=
  ⟨(pe_call0 F hr hg hm hk hb (dvs := []) .nil hx hdb).cons fun σ H Q ⟨τ, r, q⟩ => ⟨[], .nil, q⟩⟩
end
end PL
set_option Elab.async false
set_option linter.all false
set_option maxRecDepth 100000
set_option maxHeartbeats 1000000
/-! PL7: what is walked; targets; comprehensions. -/
namespace PL
open PySem PySem.Spec PyProof.Rows L2

structure ItOk (K : PySem.W.Frag) (J : It) (H1 : Hp) (ds : List D) : Prop where
  go : ∀ H i, Pers H1 H → i < ds.length → J.go i H
  stop : ∀ H i, Pers H1 H → ds.length ≤ i → J.stop i H
  yld : ∀ H i x H' d, Pers H1 H → J.yld i H x H' → ds[i]? = some d → Same H H' ∧ Im K H' x d
  len : ds.length ≤ sizeLine
def tI (K : PySem.W.Frag) (mg : Str → Option Value) (H0 : Hp) (W : XK) (κ : Kds) (f : Env → R (List D)) : TI := fun σ H Rw => ∃ τ, Rep K H0 H κ σ τ ∧ PostA mg W H (f τ) fun ds => ∀ J H1, Same H H1 → ItOk K J H1 ds → Rw J H1
structure DI (X : Cx) (H0 : Hp) (W : XK) (κ : Kds) (tg e : Expr) (f : Env → R (List D)) : Prop where
  pi : PI X tg e (tI X.K X.mg H0 W κ f)
theorem _root_.L2.PI.cons {X : Cx} {tg e : Expr} {t t' : TI} (h : PI X tg e t) (i : ∀ σ H Q, t' σ H Q → t σ H Q) : PI X tg e t' :=
  ⟨fun pins s σ H Q I z => h.run pins s σ H Q I (i σ H Q z)⟩
theorem _root_.L2.PI.or {X : Cx} {tg e : Expr} {t t' : TI} (h : PI X tg e t) (h' : PI X tg e t') : PI X tg e (fun σ H Q => t σ H Q ∨ t' σ H Q) :=
  ⟨fun pins s σ H Q I z => z.elim (h.run pins s σ H Q I) (h'.run pins s σ H Q I)⟩
section
variable {K : PySem.W.Frag} {H H' : Hp}
theorem itOk_list {a : Addr} {xs : List V} {ds : List D} (h : FzL H a xs) (i : ImAll K H xs ds) (z : ds.length ≤ sizeLine) : ItOk K (Itl K a) H ds where
  go := fun H2 j p hj => by
    have l := i.length
    exact ⟨xs, xs[j], (p.fzL h).sq, List.getElem?_eq_getElem (by omega)⟩
  stop := fun H2 j p hj => ⟨xs, (p.fzL h).sq, by rw [i.length]; exact hj⟩
  yld := fun H2 j x H3 d p hy hd => by
    obtain ⟨rfl, f⟩ := hy
    refine ⟨Same.refl _, ?_⟩
    obtain ⟨v, h1, h2⟩ := (i.mono p).get hd
    have := f xs (p.fzL h).sq
    rw [h1] at this; cases this
    exact h2
  len := z
theorem itOk_tup {a : Addr} {xs : List V} {ds : List D} (h : SqT K H a xs) (i : ImAll K H xs ds) (z : ds.length ≤ sizeLine) : ItOk K (Itt K a) H ds where
  go := fun H2 j p hj => by
    have l := i.length
    exact ⟨xs, xs[j], p.sqT h, List.getElem?_eq_getElem (by omega)⟩
  stop := fun H2 j p hj => ⟨xs, p.sqT h, by rw [i.length]; exact hj⟩
  yld := fun H2 j x H3 d p hy hd => by
    obtain ⟨rfl, f⟩ := hy
    refine ⟨Same.refl _, ?_⟩
    obtain ⟨v, h1, h2⟩ := (i.mono p).get hd
    have := f xs (p.sqT h)
    rw [h1] at this; cases this
    exact h2
  len := z
def signs (z : Str) : List D := z.cps.toList.map fun c => .str ⟨#[c]⟩
theorem itOk_str {z : Str} (h : sOk z = true) : ItOk K (Its z) H (signs z) where
  go := fun H2 j p hj => by show j < z.cps.size; simpa [signs] using hj
  stop := fun H2 j p hj => by show z.cps.size ≤ j; simpa [signs] using hj
  yld := fun H2 j x H3 d p hy hd => by
    obtain ⟨rfl, c, h1, rfl⟩ := hy
    refine ⟨Same.refl _, ?_⟩
    have h1' : z.cps.toList[j]? = some c := by rw [Array.getElem?_toList]; exact h1
    rw [signs, List.getElem?_map, h1'] at hd
    cases hd
    exact .str _ (sOk_one h (List.mem_of_getElem? h1'))
  len := by
    have := sOk_len h
    simp only [signs, List.length_map, Array.length_toList]
    exact this
/-- the things that are walked -/
def itemsOf : D → R (List D)
  | .list xs => .ok xs
  | .tuple xs => .ok xs
  | .str z => .ok (signs z)
  | _ => .bad
def iSeq (f : Env → R D) : Env → R (List D) := fun τ => (f τ).bind itemsOf
/-- lo, lo + 1, .. -/
def rng (lo : Int) (n : Nat) : List D := (List.range n).map fun k => .int (lo + (k : Nat))
theorem rng_len (lo : Int) (n : Nat) : (rng lo n).length = n := by simp [rng]
theorem itOk_rng {lo : Int} {n : Nat} (z : n ≤ sizeLine) : ItOk K (Itr lo n) H (rng lo n) where
  go := fun H2 j p hj => by rw [rng_len] at hj; exact hj
  stop := fun H2 j p hj => by rw [rng_len] at hj; exact hj
  yld := fun H2 j x H3 d p hy hd => by
    obtain ⟨rfl, rfl⟩ := hy
    refine ⟨Same.refl _, ?_⟩
    rw [rng, List.getElem?_map] at hd
    cases q : (List.range n)[j]? with
    | none => rw [q] at hd; cases hd
    | some m =>
      rw [q] at hd
      have hj := (List.getElem?_eq_some_iff.mp q)
      obtain ⟨hj1, hj2⟩ := hj
      simp at hj2
      subst hj2
      cases hd
      exact .int _
  len := by rw [rng_len]; exact z
def dRange : D → R (List D)
  | .int j => if j ≤ 16777216 ∧ -16777216 ≤ j then .ok (rng 0 j.toNat) else .bad
  | _ => .bad
def dRange2 : D → D → R (List D)
  | .int i, .int j => if j ≤ 8388608 ∧ -8388608 ≤ i ∧ i ≤ 8388608 ∧ -8388608 ≤ j then .ok (rng i (j - i).toNat) else .bad
  | _, _ => .bad
/-- pairs -/
def pair2 (a b : D) : D := .tuple [a, b]
def zipD (xs ys : List D) : List D := List.zipWith pair2 xs ys
theorem zipD_len (xs ys : List D) : (zipD xs ys).length = min xs.length ys.length := by simp [zipD]
theorem zipD_get {xs ys : List D} {i : Nat} {d : D} (h : (zipD xs ys)[i]? = some d) : ∃ x y, xs[i]? = some x ∧ ys[i]? = some y ∧ d = .tuple [x, y] := by
  rw [zipD, List.getElem?_zipWith] at h
  cases h1 : xs[i]? with
  | none => rw [h1] at h; cases h
  | some x =>
    cases h2 : ys[i]? with
    | none => rw [h1, h2] at h; cases h
    | some y => rw [h1, h2] at h; cases h; exact ⟨x, y, rfl, rfl, rfl⟩
theorem two_small : 2 ≤ sizeLine := by decide
theorem itOk_zipL {a b : Addr} {xs ys : List V} {ds es : List D} (h : FzL H a xs) (i : ImAll K H xs ds) (h' : FzL H b ys) (i' : ImAll K H ys es) (z : ds.length ≤ sizeLine) : ItOk K (Itz K a b) H (zipD ds es) where
  go := fun H2 j p hj => by
    have l := i.length
    have l' := i'.length
    rw [zipD_len] at hj
    exact ⟨xs, ys, xs[j], ys[j], (p.fzL h).sq, (p.fzL h').sq, List.getElem?_eq_getElem (by omega), List.getElem?_eq_getElem (by omega)⟩
  stop := fun H2 j p hj => by
    have l := i.length
    have l' := i'.length
    rw [zipD_len] at hj
    exact ⟨xs, ys, (p.fzL h).sq, (p.fzL h').sq, by omega⟩
  yld := fun H2 j x H3 d p hy hd => by
    obtain ⟨T, v, w, rfl, nT, rfl, f1, f2⟩ := hy
    obtain ⟨d1, d2, e1, e2, rfl⟩ := zipD_get hd
    refine ⟨same_upd nT, ?_⟩
    obtain ⟨v1, q1, q2⟩ := (i.mono p).get e1
    obtain ⟨v2, q3, q4⟩ := (i'.mono p).get e2
    have a1 := f1 xs (p.fzL h).sq
    have a2 := f2 ys (p.fzL h').sq
    rw [q1] at a1; cases a1
    rw [q3] at a2; cases a2
    exact im_tup_new nT (.cons q2 (.cons q4 .nil)) two_small
  len := by rw [zipD_len]; omega
theorem itOk_zipT {a b : Addr} {xs ys : List V} {ds es : List D} (h : SqT K H a xs) (i : ImAll K H xs ds) (h' : SqT K H b ys) (i' : ImAll K H ys es) (z : ds.length ≤ sizeLine) : ItOk K (RZ.ItzT K a b) H (zipD ds es) where
  go := fun H2 j p hj => by
    have l := i.length
    have l' := i'.length
    rw [zipD_len] at hj
    exact ⟨xs, ys, xs[j], ys[j], p.sqT h, p.sqT h', List.getElem?_eq_getElem (by omega), List.getElem?_eq_getElem (by omega)⟩
  stop := fun H2 j p hj => by
    have l := i.length
    have l' := i'.length
    rw [zipD_len] at hj
    exact ⟨xs, ys, p.sqT h, p.sqT h', by omega⟩
  yld := fun H2 j x H3 d p hy hd => by
    obtain ⟨T, v, w, rfl, nT, rfl, f1, f2⟩ := hy
    obtain ⟨d1, d2, e1, e2, rfl⟩ := zipD_get hd
    refine ⟨same_upd nT, ?_⟩
    obtain ⟨v1, q1, q2⟩ := (i.mono p).get e1
    obtain ⟨v2, q3, q4⟩ := (i'.mono p).get e2
    have a1 := f1 xs (p.sqT h)
    have a2 := f2 ys (p.sqT h')
    rw [q1] at a1; cases a1
    rw [q3] at a2; cases a2
    exact im_tup_new nT (.cons q2 (.cons q4 .nil)) two_small
  len := by rw [zipD_len]; omega
def dZip : D → D → R (List D)
  | .list xs, .list ys => .ok (zipD xs ys)
  | .tuple xs, .tuple ys => .ok (zipD xs ys)
  | _, _ => .bad
/-- places and things -/
def enumD (k : Nat) : List D → List D
  | [] => []
  | d :: ds => .tuple [.int (k : Nat), d] :: enumD (k + 1) ds
theorem enumD_len : ∀ (k : Nat) (ds : List D), (enumD k ds).length = ds.length
  | _, [] => rfl
  | k, _ :: ds => congrArg (· + 1) (enumD_len (k + 1) ds)
theorem enumD_get : ∀ {k : Nat} {ds : List D} {i : Nat} {e : D}, (enumD k ds)[i]? = some e → ∃ d, ds[i]? = some d ∧ e = .tuple [.int ((k + i : Nat) : Int), d]
  | _, [], _, _, h => by simp [enumD] at h
  | k, d :: ds, 0, e, h => by simp [enumD] at h; exact ⟨d, rfl, by rw [← h]; simp⟩
  | k, d :: ds, i + 1, e, h => by
    obtain ⟨d', h1, h2⟩ := enumD_get (k := k + 1) (ds := ds) (i := i) (e := e) (by simpa [enumD] using h)
    exact ⟨d', by simpa using h1, by rw [h2]; congr 4; omega⟩
theorem itOk_enumL {a : Addr} {xs : List V} {ds : List D} (h : FzL H a xs) (i : ImAll K H xs ds) (z : ds.length ≤ sizeLine) : ItOk K (Ite K a) H (enumD 0 ds) where
  go := fun H2 j p hj => by
    have l := i.length
    rw [enumD_len] at hj
    exact ⟨xs, xs[j], (p.fzL h).sq, List.getElem?_eq_getElem (by omega)⟩
  stop := fun H2 j p hj => ⟨xs, (p.fzL h).sq, by rw [enumD_len] at hj; rw [i.length]; exact hj⟩
  yld := fun H2 j x H3 d p hy hd => by
    obtain ⟨T, v, rfl, nT, rfl, f1⟩ := hy
    obtain ⟨d1, e1, rfl⟩ := enumD_get hd
    refine ⟨same_upd nT, ?_⟩
    obtain ⟨v1, q1, q2⟩ := (i.mono p).get e1
    have a1 := f1 xs (p.fzL h).sq
    rw [q1] at a1; cases a1
    rw [Nat.zero_add]
    exact im_tup_new nT (.cons (.int _) (.cons q2 .nil)) two_small
  len := by rw [enumD_len]; exact z
end
section
variable {X : Cx} {H0 : Hp} {W : XK} {κ : Kds} {e a b tg : Expr} {f fa fb : Env → R D} {pos p tpos : Pos}
/-- a thing is walked: a kept list, a tuple, a text -/
theorem di_seq (h : DE X H0 W κ rP e f) : DI X H0 W κ tg e (iSeq f) :=
  ⟨(PI.or (pi_list h.pe) (PI.or (pi_tup h.pe) (pi_str h.pe))).cons fun σ H Q ⟨τ, r, q⟩ => by
    have q1 := PostA.bind q
    cases e1 : f τ with
    | err n =>
      rw [e1] at q1
      exact .inl ⟨τ, r, by rw [e1]; exact q1⟩
    | bad => rw [e1] at q1; exact q1.elim
    | ok d =>
      rw [e1] at q1
      cases d with
      | list ds =>
        refine .inl ⟨τ, r, ?_⟩
        rw [e1]
        intro v H1 s1 hv
        rcases hv with hv | hv
        · cases hv with
          | lst h1 z i => exact ⟨_, rfl, ⟨_, h1.sq⟩, q1 _ H1 s1 (itOk_list h1 i z)⟩
        · cases hv
      | tuple ds =>
        refine .inr (.inl ⟨τ, r, ?_⟩)
        rw [e1]
        intro v H1 s1 hv
        obtain ⟨l, xs, rfl, h1, i, z⟩ := rD_tup (le_PD.le _ H _ _ _ hv)
        exact ⟨_, rfl, ⟨_, h1⟩, q1 _ H1 s1 (itOk_tup h1 i z)⟩
      | str z =>
        refine .inr (.inr ⟨τ, r, ?_⟩)
        rw [e1]
        intro v H1 s1 hv
        obtain ⟨rfl, o⟩ := rD_str (le_PD.le _ H _ _ _ hv)
        exact ⟨z, rfl, q1 _ H1 s1 (itOk_str o)⟩
      | _ => exact q1.elim⟩
def iRange (f : Env → R D) : Env → R (List D) := fun τ => (f τ).bind dRange
def iRange2 (fa fb : Env → R D) : Env → R (List D) := fun τ => (fa τ).bind fun a => (fb τ).bind fun b => dRange2 a b
theorem di_range (hg : Gl X "range") (hm : X.mg "range" = none) (ha : DE X H0 W κ rE a fa) (hs : starEach [a] X.env = [(false, eval a X.env)] := by rfl) : DI X H0 W κ tg (.Call (.Name "range" p) [a] [] pos) (iRange fa) :=
  ⟨(pi_range1 hg hm (pa_cons ha.pe pa_nil hs) hs).cons fun σ H Q ⟨τ, r, q⟩ => ⟨τ, r, PostA.imp (PostA.bind q) fun d pd v H1 s1 hv => by
    cases d <;> try exact pd.elim
    rename_i j
    by_cases hz : j ≤ 16777216 ∧ -16777216 ≤ j
    · simp only [dRange, if_pos hz, PostA] at pd
      exact ⟨j, by rw [rE_int hv], by omega, by omega, pd _ H1 s1 (itOk_rng (by rw [sizeLine_eq]; omega))⟩
    · simp only [dRange, if_neg hz, PostA] at pd⟩⟩
theorem di_range2 (hg : Gl X "range") (hm : X.mg "range" = none) (ha : DE X H0 W κ rE a fa) (hb : DE X H0 W κ rE b fb) (hs : starEach [a, b] X.env = [(false, eval a X.env), (false, eval b X.env)] := by rfl) (hs2 : starEach [b] X.env = [(false, eval b X.env)] := by rfl) :
    DI X H0 W κ tg (.Call (.Name "range" p) [a, b] [] pos) (iRange2 fa fb) :=
  ⟨(pi_range2 hg hm (pa_cons ha.pe (pa_cons hb.pe pa_nil hs2) (by rw [hs, hs2])) hs hs2).cons fun σ H Q ⟨τ, r, q⟩ => ⟨τ, r, PostA.imp (PostA.bind q) fun d pd v H1 s1 hv => ⟨τ, r.to s1, PostA.imp (PostA.bind (PostA.to pd s1)) fun d2 pd2 v2 H2 s2 hv2 => by
    cases d <;> cases d2 <;> try exact pd2.elim
    rename_i i j
    by_cases hz : j ≤ 8388608 ∧ -8388608 ≤ i ∧ i ≤ 8388608 ∧ -8388608 ≤ j
    · simp only [dRange2, if_pos hz, PostA] at pd2
      exact ⟨i, j, by rw [rE_int hv, rE_int hv2], ⟨by omega, by omega, by omega, by omega⟩, pd2 _ H2 (s1.trans s2) (itOk_rng (by rw [sizeLine_eq]; omega))⟩
    · simp only [dRange2, if_neg hz, PostA] at pd2⟩⟩⟩
def iZip2 (fa fb : Env → R D) : Env → R (List D) := fun τ => (fa τ).bind fun a => (fb τ).bind fun b => dZip a b
theorem di_zip {elts : List Expr} {kk : Nat} (hg : Gl X "zip") (hm : X.mg "zip" = none) (ha : DE X H0 W κ rI a fa) (hb : DE X H0 W κ rI b fb) (hs : starEach [a, b] X.env = (false, eval a X.env) :: starEach [b] X.env := by rfl) (hs2 : starEach [b] X.env = (false, eval b X.env) :: starEach [] X.env := by rfl) (hpl : (backTo pos (starEach [b] X.env)).any (·.1) = false := by rfl) :
    DI X H0 W κ (.Tuple elts kk tpos) (.Call (.Name "zip" p) [a, b] [] pos) (iZip2 fa fb) :=
  ⟨(RZ.pi_zipA hg hm (pa_cons ha.pe (pa_cons hb.pe pa_nil hs2) hs) hs hpl).cons fun σ H Q ⟨τ, r, q⟩ => ⟨τ, r, PostA.imp (PostA.bind q) fun d pd v H1 s1 hv => ⟨τ, r.to s1, PostA.imp (PostA.bind (PostA.to pd s1)) fun d2 pd2 v2 H2 s2 hv2 => by
    have hv' : Im X.K H2 v d := hv.mono (Same.pers s2)
    cases d <;> cases d2 <;> try exact pd2.elim
    · cases hv' with
      | lst h1 z1 i1 =>
        cases hv2 with
        | lst h2 z2 i2 => exact ⟨_, _, _, _, rfl, .inl ⟨h1.sq, h2.sq, pd2 _ H2 (s1.trans s2) (itOk_zipL h1 i1 h2 i2 z1)⟩⟩
    · cases hv' with
      | tup h1 z1 i1 =>
        cases hv2 with
        | tup h2 z2 i2 => exact ⟨_, _, _, _, rfl, .inr ⟨.of h1, .of h2, pd2 _ H2 (s1.trans s2) (itOk_zipT (.of h1) i1 (.of h2) i2 z1)⟩⟩
        | ftup h2 z2 i2 => exact ⟨_, _, _, _, rfl, .inr ⟨.of h1, .inl (.inr ⟨_, h2⟩), pd2 _ H2 (s1.trans s2) (itOk_zipT (.of h1) i1 (.inl (.inr ⟨_, h2⟩)) i2 z1)⟩⟩
      | ftup h1 z1 i1 =>
        cases hv2 with
        | tup h2 z2 i2 => exact ⟨_, _, _, _, rfl, .inr ⟨.inl (.inr ⟨_, h1⟩), .of h2, pd2 _ H2 (s1.trans s2) (itOk_zipT (.inl (.inr ⟨_, h1⟩)) i1 (.of h2) i2 z1)⟩⟩
        | ftup h2 z2 i2 => exact ⟨_, _, _, _, rfl, .inr ⟨.inl (.inr ⟨_, h1⟩), .inl (.inr ⟨_, h2⟩), pd2 _ H2 (s1.trans s2) (itOk_zipT (.inl (.inr ⟨_, h1⟩)) i1 (.inl (.inr ⟨_, h2⟩)) i2 z1)⟩⟩⟩⟩⟩
def dEnumL : D → R (List D)
  | .list xs => .ok (enumD 0 xs)
  | _ => .bad
def iEnumL (f : Env → R D) : Env → R (List D) := fun τ => (f τ).bind dEnumL
theorem di_enumL {elts : List Expr} {kk : Nat} (hg : Gl X "enumerate") (hm : X.mg "enumerate" = none) (ha : DE X H0 W κ rI a fa) (hs : starEach [a] X.env = [(false, eval a X.env)] := by rfl) : DI X H0 W κ (.Tuple elts kk tpos) (.Call (.Name "enumerate" p) [a] [] pos) (iEnumL fa) :=
  ⟨(pi_enum hg hm (pa_cons ha.pe pa_nil hs) hs).cons fun σ H Q ⟨τ, r, q⟩ => ⟨τ, r, PostA.imp (PostA.bind q) fun d pd v H1 s1 hv => by
    cases d <;> try exact pd.elim
    cases hv with
    | lst h1 z1 i1 => exact ⟨_, _, rfl, h1.sq, pd _ H1 s1 (itOk_enumL h1 i1 z1)⟩⟩⟩
end
end PL
set_option Elab.async false
set_option linter.all false
set_option maxRecDepth 100000
set_option maxHeartbeats 1000000
/-! PL8: targets; list comprehensions. -/
namespace PL
open PySem PySem.Spec PyProof.Rows L2

/-! ### targets -/
def bName (i : Nat) : D → Env → R Env := fun d τ => .ok (τ.set i (some d))
def bNil : List D → Env → R Env := fun ds τ => match ds with | [] => .ok τ | _ => .bad
def bCons (b : D → Env → R Env) (bs : List D → Env → R Env) : List D → Env → R Env := fun ds τ => match ds with | d :: r => (b d τ).bind fun τ' => bs r τ' | _ => .bad
def bTup (bs : List D → Env → R Env) : D → Env → R Env := fun d τ => match d with | .tuple ds => bs ds τ | _ => .bad
/-- nothing but the slots at vs has changed -/
def KeepS (vs : List Nat) (σ σ' : L2.St) : Prop := σ'.length = σ.length ∧ ∀ j, j ∉ vs → σ'[j]? = σ[j]?
def PostB (r : R Env) (A : Env → Prop) : Prop := match r with | .ok τ => A τ | _ => False
def gD (K : PySem.W.Frag) (H0 : Hp) (κ κ' : Kds) (vs : List Nat) (b : D → Env → R Env) : TG := fun v σ H Q => ∃ τ d, Rep K H0 H κ σ τ ∧ Im K H v d ∧ PostB (b d τ) fun τ' => ∀ σ', Rep K H0 H κ' σ' τ' → KeepS vs σ σ' → Q σ' H
def gDs (K : PySem.W.Frag) (H0 : Hp) (κ κ' : Kds) (vs : List Nat) (b : List D → Env → R Env) : TGs := fun us σ H Q => ∃ τ ds, Rep K H0 H κ σ τ ∧ ImAll K H us ds ∧ PostB (b ds τ) fun τ' => ∀ σ', Rep K H0 H κ' σ' τ' → KeepS vs σ σ' → Q σ' H
structure DP (X : Cx) (H0 : Hp) (κ : Kds) (tg : Expr) (vs : List Nat) (b : D → Env → R Env) (κ' : Kds) : Prop where
  pg : PG X tg (gD X.K H0 κ κ' vs b)
structure DPs (X : Cx) (H0 : Hp) (κ : Kds) (ts : List Expr) (vs : List Nat) (b : List D → Env → R Env) (κ' : Kds) (n : Nat) : Prop where
  pg : PGs X ts (gDs X.K H0 κ κ' vs b)
  len : ∀ ds τ τ', b ds τ = .ok τ' → ds.length = n
theorem _root_.L2.PG.cons {X : Cx} {tg : Expr} {t t' : TG} (h : PG X tg t) (i : ∀ v σ H Q, t' v σ H Q → t v σ H Q) : PG X tg t' :=
  ⟨fun pins s σ H v u Q I r z => h.run pins s σ H v u Q I r (i v σ H Q z)⟩
theorem _root_.L2.PGs.cons {X : Cx} {tg : List Expr} {t t' : TGs} (h : PGs X tg t) (i : ∀ v σ H Q, t' v σ H Q → t v σ H Q) : PGs X tg t' :=
  ⟨fun pins s σ H v u Q I r z => h.run pins s σ H v u Q I r (i v σ H Q z)⟩
section
variable {X : Cx} {H0 : Hp} {κ κ1 κ2 : Kds} {tg : Expr} {ts : List Expr} {vs ws : List Nat} {b : D → Env → R Env} {bs : List D → Env → R Env} {pos : Pos} {n : Nat}
theorem dp_name {i : Nat} {x : Str} (hN : X.N.Nodup) (hi : X.N[i]? = some x) (hx : Loc X.env.scope x) (hk : i < κ.length := by decide) (hf : X.fn x = true ∨ X.env.scope.names.lookup x = some .local := by first | exact .inl rfl | exact .inr rfl | assumption) :
    DP X H0 κ (.Name x pos) [i] (bName i) (κ.set i .imm) :=
  ⟨(pg_name hN hi hx hf).cons fun v σ H Q ⟨τ, d, r, hv, q⟩ => q _ (r.setI hk hv) ⟨by simp, fun j hj => by rw [List.getElem?_set_ne (by rintro rfl; exact hj (by simp))]⟩⟩
theorem dps_nil : DPs X H0 κ [] [] bNil κ 0 :=
  ⟨pgs_nil.cons fun us σ H Q ⟨τ, ds, r, hi, q⟩ => by
    cases hi with
    | nil => exact ⟨rfl, q σ r ⟨rfl, fun _ _ => rfl⟩⟩
    | cons => exact q.elim, fun ds τ τ' e => by cases ds <;> first | rfl | cases e⟩
theorem PostB.bind {r : R Env} {k : Env → R Env} {A : Env → Prop} (h : PostB (r.bind k) A) : PostB r fun τ => PostB (k τ) A := by
  cases r with
  | ok a => exact h
  | err n => exact h
  | bad => exact h
theorem PostB.imp {r : R Env} {A B : Env → Prop} (h : PostB r A) (i : ∀ a, A a → B a) : PostB r B := by
  cases r with
  | ok a => exact i a h
  | err n => exact h
  | bad => exact h
theorem dps_cons {e : Expr} (h1 : DP X H0 κ e vs b κ1) (h2 : DPs X H0 κ1 ts ws bs κ2 n) (hs : (assignEach (e :: ts) X.env).map (·.2) = assign e X.env :: (assignEach ts X.env).map (·.2) := by rfl) : DPs X H0 κ (e :: ts) (vs ++ ws) (bCons b bs) κ2 (n + 1) :=
  ⟨(pgs_cons h1.pg h2.pg hs).cons fun us σ H Q ⟨τ, ds, r, hi, q⟩ => by
    cases hi with
    | nil => exact q.elim
    | cons hv ha =>
      refine ⟨_, _, rfl, τ, _, r, hv, PostB.imp (PostB.bind q) fun τ1 q1 σ1 r1 k1 => ⟨τ1, _, r1, ha, PostB.imp q1 fun τ2 q2 σ2 r2 k2 => q2 σ2 r2 ⟨k2.1.trans k1.1, fun j hj => ?_⟩⟩⟩
      rw [k2.2 j (fun z => hj (List.mem_append_right _ z)), k1.2 j (fun z => hj (List.mem_append_left _ z))],
   fun ds τ τ' e => by
    cases ds with
    | nil => cases e
    | cons d r =>
      unfold bCons at e
      cases h3 : b d τ with
      | ok τ1 => simp only [h3, R.bind_ok] at e; exact congrArg (· + 1) (h2.len r τ1 τ' e)
      | err n => simp only [h3] at e; cases e
      | bad => simp only [h3] at e; cases e⟩
theorem dp_tup {k : Nat} (hc : X.calm = true) (h : DPs X H0 κ ts vs bs κ1 n) (hn : (assignEach ts X.env).length = n := by rfl) (hst : (assignEach ts X.env).findIdx? (·.1) = none := by rfl) : DP X H0 κ (.Tuple ts k pos) vs (bTup bs) κ1 :=
  ⟨(pg_tup hc h.pg hn hst).cons fun v σ H Q ⟨τ, d, r, hv, q⟩ => by
    cases hv with
    | tup h1 z i =>
      refine ⟨_, _, rfl, .of h1, ?_, τ, _, r, i, q⟩
      rename_i es _
      have q' : PostB (bs es τ) _ := q
      cases e : bs es τ with
      | ok τ1 => rw [i.length]; exact h.len es τ τ1 e
      | err n => rw [e] at q'; exact False.elim q'
      | bad => rw [e] at q'; exact False.elim q'
    | @ftup _ _ _ e0 es h1 z i =>
      refine ⟨_, _, rfl, .inl (.inr ⟨_, h1⟩), ?_, τ, _, r, i, q⟩
      have q' : PostB (bs (.tuple e0 :: es) τ) _ := q
      cases e : bs (.tuple e0 :: es) τ with
      | ok τ1 => rw [i.length]; exact h.len _ τ τ1 e
      | err n => rw [e] at q'; exact False.elim q'
      | bad => rw [e] at q'; exact False.elim q'
    | _ => exact False.elim q⟩
end

/-! ### blocks of comprehensions -/
def wipeE (τ : Env) : List Nat → Env
  | [] => τ
  | v :: vs => (wipeE τ vs).set v none
def wipeK (κ : Kds) : List Nat → Kds
  | [] => κ
  | v :: vs => (wipeK κ vs).set v .imm
section
variable {K : PySem.W.Frag} {H0 H : Hp} {κ : Kds} {σ : L2.St} {τ : Env}
theorem Rep.drop (r : Rep K H0 H κ σ τ) (i : Nat) (k : Kd) : Rep K H0 H (κ.set i k) (σ.set i none) (τ.set i none) := by
  have q := r.forget i k
  have s1 : ∀ {j d}, (τ.set i none)[j]? = some (some d) → j ≠ i := fun {j d} e => by
    rcases env_set e with ⟨_, h1, _⟩ | ⟨hne, _⟩
    · cases h1
    · exact hne
  refine ⟨by simpa using r.len, fun j d e k' => ?_, fun j d e k' => ?_, fun j d e k' => ?_, fun j l d e a hjl e1 e2 k1 k2 z1 z2 => ?_, r.same⟩
  · rw [List.getElem?_set_ne (Ne.symm (s1 e))]; exact q.imm j d e k'
  · rw [List.getElem?_set_ne (Ne.symm (s1 e))]; exact q.dct j d e k'
  · rw [List.getElem?_set_ne (Ne.symm (s1 e))]; exact q.own j d e k'
  · rw [List.getElem?_set_ne (Ne.symm (s1 e1))] at z1
    rw [List.getElem?_set_ne (Ne.symm (s1 e2))] at z2
    exact q.sep j l d e a hjl e1 e2 k1 k2 z1 z2
theorem Rep.wipe (r : Rep K H0 H κ σ τ) : ∀ vs : List Nat, Rep K H0 H (wipeK κ vs) (L2.wipe σ vs) (wipeE τ vs)
  | [] => r
  | v :: vs => (Rep.wipe r vs).drop v .imm
end
theorem wipe_at (σ : L2.St) : ∀ (vs : List Nat) (j : Nat), (L2.wipe σ vs)[j]? = if j ∈ vs then (if j < σ.length then some none else none) else σ[j]?
  | [], j => by simp [L2.wipe]
  | v :: vs, j => by
    rw [L2.wipe]
    by_cases h : v = j
    · subst h
      by_cases hl : v < σ.length
      · rw [List.getElem?_set_self (by rw [wipe_length]; exact hl)]; simp [hl]
      · rw [List.getElem?_eq_none (by rw [List.length_set, wipe_length]; omega)]; simp [hl]
    · rw [List.getElem?_set_ne h, wipe_at σ vs j]
      simp [Ne.symm h]
theorem wipe_eq {σ σ' : L2.St} {vs ws : List Nat} (hl : σ'.length = σ.length) (h : ∀ j, j ∉ ws → σ'[j]? = (L2.wipe σ vs)[j]?) (hs : ∀ j ∈ ws, j ∈ vs) : L2.wipe σ' vs = L2.wipe σ vs := by
  apply List.ext_getElem?
  intro j
  rw [wipe_at, wipe_at, hl]
  by_cases hj : j ∈ vs
  · simp [hj]
  · rw [if_neg hj, if_neg hj, h j (fun z => hj (hs j z)), wipe_at, if_neg hj]
def lcGo (b : D → Env → R Env) (c : Env → R Bool) (e : Env → R D) (τ0 : Env) : List D → R (List D)
  | [] => .ok []
  | d :: ds => (b d τ0).bind fun τ1 => (c τ1).bind fun k => if k = true then (e τ1).bind fun y => (lcGo b c e τ0 ds).bind fun ys => .ok (y :: ys) else lcGo b c e τ0 ds
def fLc (vs : List Nat) (it : Env → R (List D)) (b : D → Env → R Env) (c : Env → R Bool) (e : Env → R D) : Env → R D := fun τ => (it τ).bind fun ds => (lcGo b c e (wipeE τ vs) ds).calm.bind fun ys => .ok (.list ys)
def tYes' : Env → R Bool := fun _ => .ok true
structure DTs (X : Cx) (H0 : Hp) (W : XK) (κ : Kds) (ifs : List Expr) (c : Env → R Bool) : Prop where
  pt : PTs X ifs (tT X.K X.mg H0 W κ c)
theorem _root_.L2.PTs.cons {X : Cx} {e : List Expr} {t t' : TT} (h : PTs X e t) (i : ∀ σ H Q, t' σ H Q → t σ H Q) : PTs X e t' :=
  ⟨fun pins s σ H Q I z => h.run pins s σ H Q I (i σ H Q z)⟩
section
variable {X : Cx} {H0 : Hp} {W : XK} {κ κ' : Kds} {tg iter elt c : Expr} {ifs : List Expr} {vs ws : List Nat} {b : D → Env → R Env} {fi : Env → R (List D)} {fc : Env → R Bool} {fe : Env → R D} {pos : Pos} {scope : Scope} {own : List (Str × Nat)}
theorem dts_nil : DTs X H0 W κ [] tYes' := ⟨pts_nil.cons fun σ H Q ⟨τ, r, q⟩ => q H (Same.refl H)⟩
theorem dts_one (h : DT X H0 W κ c fc) : DTs X H0 W κ [c] fc := ⟨pts_one h.pt⟩
theorem lc_ok {α : Type} {r : R α} {A : α → Prop} {mg : Str → Option Value} {W : XK} {H : Hp} (h : PostA mg W H r.calm A) : ∃ a, r = .ok a ∧ A a := by
  cases r with
  | ok a => exact ⟨a, rfl, h⟩
  | err n => exact h.elim
  | bad => exact h.elim
theorem bind_ok' {α β : Type} {r : R α} {k : α → R β} {y : β} (h : r.bind k = .ok y) : ∃ a, r = .ok a ∧ k a = .ok y := by
  cases r with
  | ok a => exact ⟨a, rfl, h⟩
  | err n => cases h
  | bad => cases h
/-- the reading of a comprehension -/
theorem tLc_of {σ : L2.St} {H : Hp} {Q : VK} (hsub : ∀ j ∈ ws, j ∈ vs) (h : tD X.K X.mg H0 W κ rN (fLc vs fi b fc fe) σ H Q) :
    tLc (tI X.K X.mg H0 W κ fi) (gD X.K H0 (wipeK κ vs) κ' ws b) (tT X.K X.mg H0 E0 κ' fc) (tD X.K X.mg H0 E0 κ' rI fe) vs σ H Q := by
  obtain ⟨τ, r, q⟩ := h
  refine ⟨τ, r, PostA.imp (PostA.bind q) fun ds qd J H1 s1 ok D nD => ?_⟩
  obtain ⟨res, eres, qr⟩ := lc_ok (PostA.bind qd)
  have sD : ∀ {H o}, Same H1 H → Same H1 (upd H D o) := fun s => same_put s nD
  refine ⟨fun i m H => i + m = ds.length ∧ ∃ acc ys zs, H D = some (.lst acc) ∧ ImAll X.K H acc ys ∧ ys.length ≤ i ∧ Same H1 H ∧ lcGo b fc fe (wipeE τ vs) (ds.drop i) = .ok zs ∧ res = ys ++ zs,
    ⟨ds.length, by omega, [], [], res, upd_same, .nil, Nat.le_refl _, sD (Same.refl _), by simpa using eres, rfl⟩, fun i m H2 hW => ?_⟩
  obtain ⟨em, acc, ys, zs, hD, ia, ly, s2, ez, er⟩ := hW
  by_cases hi : i < ds.length
  · refine .inr ⟨ok.go H2 i (Same.pers s2) hi, fun H' => i + 1 + (m - 1) = ds.length ∧ ∃ acc ys zs, H' D = some (.lst acc) ∧ ImAll X.K H' acc ys ∧ ys.length ≤ i + 1 ∧ Same H1 H' ∧ lcGo b fc fe (wipeE τ vs) (ds.drop (i + 1)) = .ok zs ∧ res = ys ++ zs,
      fun H' hN => ⟨m - 1, by omega, hN⟩, fun x H3 hy => ?_⟩
    have hd : ds[i]? = some ds[i] := List.getElem?_eq_getElem hi
    obtain ⟨s3, ix⟩ := ok.yld H2 i x H3 ds[i] (Same.pers s2) hy hd
    rw [List.drop_eq_getElem_cons hi] at ez
    obtain ⟨τ1, eb, ez⟩ := bind_ok' (show (b ds[i] (wipeE τ vs)).bind _ = .ok zs from ez)
    obtain ⟨k, ec, ez⟩ := bind_ok' ez
    have rw0 : Rep X.K H0 H3 (wipeK κ vs) (wipe σ vs) (wipeE τ vs) := ((r.to s1).wipe vs).to (s2.trans s3)
    refine ⟨wipeE τ vs, ds[i], rw0, ix, ?_⟩
    rw [eb]
    intro σ2 r2 k2
    refine ⟨wipe_eq (by rw [k2.1, wipe_length]) k2.2 hsub, τ1, r2, ?_⟩
    · rw [ec]
      intro H4 s4
      have hD4 : H4 D = some (.lst acc) := s4 _ _ (s3 _ _ hD)
      have s14 : Same H1 H4 := s2.trans (s3.trans s4)
      have ia4 : ImAll X.K H4 acc ys := ia.mono (Same.pers (s3.trans s4))
      cases k with
      | true =>
        rw [if_pos rfl] at ez ⊢
        obtain ⟨y, ey, ez⟩ := bind_ok' ez
        obtain ⟨zs', ezs, ez⟩ := bind_ok' ez
        cases ez
        refine ⟨τ1, r2.to s4, ?_⟩
        rw [ey]
        intro v H5 s5 iv
        have l := ia.length
        refine ⟨acc, s5 _ _ hD4, by have := ok.len; omega, by omega, acc ++ [v], ys ++ [y], zs', upd_same, ?_, by rw [List.length_append]; simp; omega, sD (s14.trans s5), ezs, by rw [er]; simp⟩
        have pu : Pers H5 (upd H5 D (.lst (acc ++ [v]))) := pers_upd (by rw [s5 _ _ hD4]; trivial)
        exact ((ia4.mono (Same.pers s5)).append (.one iv)).mono pu
      | false =>
        rw [if_neg (by decide)] at ez ⊢
        exact ⟨by omega, acc, ys, zs, hD4, ia4, by omega, s14, ez, er⟩
  · refine .inl ⟨ok.stop H2 i (Same.pers s2) (by omega), ?_⟩
    have ei : ds.drop i = [] := List.drop_eq_nil_of_le (by omega)
    rw [ei] at ez
    cases ez
    rw [List.append_nil] at er
    subst er
    have ll := ok.len
    exact qr (.ref D) H2 (s1.trans s2) ⟨D, _, rfl, rfl, s1.free nD, .lst hD (by omega) ia⟩
end
end PL
set_option Elab.async false
set_option linter.all false
set_option maxRecDepth 100000
set_option maxHeartbeats 1000000
/-! PL9: the rule of a comprehension; statements. -/
namespace PL
open PySem PySem.Spec PyProof.Rows L2

section
variable {X : Cx} {H0 : Hp} {W : XK} {κ κ' : Kds} {tg iter elt c : Expr} {ifs : List Expr} {vs ws : List Nat} {b : D → Env → R Env} {fi : Env → R (List D)} {fc : Env → R Bool} {fe : Env → R D} {pos : Pos} {scope : Scope} {own : List (Str × Nat)}
theorem de_lc (hc : X.calm = true) (hN : X.N.Nodup) (hi : DI X H0 W κ tg iter fi) (ok : BlkOk X.N X.env.scope scope own) (hvs : own.map (·.2) = vs)
    (hg : ∀ (s : Shared) (H : Hp) (C : Addr) (cl : List (Str × Addr)) (fp : List Addr), DP (X.blk s H scope (compEnvC scope cl C X.env) fp) H0 (wipeK κ vs) tg ws b κ')
    (ht : ∀ (s : Shared) (H : Hp) (C : Addr) (cl : List (Str × Addr)) (fp : List Addr), DTs (X.blk s H scope (compEnvC scope cl C X.env) fp) H0 E0 κ' ifs fc)
    (he : ∀ (s : Shared) (H : Hp) (C : Addr) (cl : List (Str × Addr)) (fp : List Addr), DE (X.blk s H scope (compEnvC scope cl C X.env) fp) H0 E0 κ' rI elt fe)
    (hsub : ∀ j ∈ ws, j ∈ vs := by decide) (hs : ∀ x, foldedSetIterable iter X.env x = pure x := by intro _; rfl) : DE X H0 W κ rN (.ListComp elt [⟨tg, iter, ifs, 0⟩] scope pos) (fLc vs fi b fc fe) :=
  ⟨(pe_lc (g := gD X.K H0 (wipeK κ vs) κ' ws b) (tt := tT X.K X.mg H0 E0 κ' fc) (te := tD X.K X.mg H0 E0 κ' rI fe) hc hN hi.pi ok (fun s H C cl fp => (hg s H C cl fp).pg) (fun s H C cl fp => (ht s H C cl fp).pt) (fun s H C cl fp => (he s H C cl fp).pe) hs).cons fun σ H Q h => by rw [hvs]; exact tLc_of hsub h⟩
/-- x = [..] on one line -/
theorem ps_lc {i : Nat} {y : Str} {py spos : Pos} (hc : X.calm = true) (hN : X.N.Nodup) (hy : X.N[i]? = some y) (hyl : X.env.scope.names.lookup y = some .local)
    (hsw : swapsWith (.ListComp elt [⟨tg, iter, ifs, 0⟩] scope pos) (some (.Name y py)) spos.line X.env = pure true) (hi : DI X H0 W κ tg iter fi) (ok : BlkOk X.N X.env.scope scope own) (hvs : own.map (·.2) = vs)
    (hg : ∀ (s : Shared) (H : Hp) (C : Addr) (cl : List (Str × Addr)) (fp : List Addr), DP (X.blk s H scope (compEnvC scope cl C X.env) fp) H0 (wipeK κ vs) tg ws b κ')
    (ht : ∀ (s : Shared) (H : Hp) (C : Addr) (cl : List (Str × Addr)) (fp : List Addr), DTs (X.blk s H scope (compEnvC scope cl C X.env) fp) H0 E0 κ' ifs fc)
    (he : ∀ (s : Shared) (H : Hp) (C : Addr) (cl : List (Str × Addr)) (fp : List Addr), DE (X.blk s H scope (compEnvC scope cl C X.env) fp) H0 E0 κ' rI elt fe)
    (hsub : ∀ j ∈ ws, j ∈ vs := by decide) (hs : ∀ x, foldedSetIterable iter X.env x = pure x := by intro _; rfl) :
    ∃ te, PS X (.Assign [.Name y py] (.ListComp elt [⟨tg, iter, ifs, 0⟩] scope pos) spos) (tAsg te (gName i)) ∧ ∀ σ H Q, tD X.K X.mg H0 W κ rN (fLc vs fi b fc fe) σ H Q → te σ H Q :=
  ⟨_, ps_setLc (g := gD X.K H0 (wipeK κ vs) κ' ws b) (tt := tT X.K X.mg H0 E0 κ' fc) (te := tD X.K X.mg H0 E0 κ' rI fe) hc hN hy hyl hsw hi.pi ok (fun s H C cl fp => (hg s H C cl fp).pg) (fun s H C cl fp => (ht s H C cl fp).pt) (fun s H C cl fp => (he s H C cl fp).pe) hs, fun σ H Q h => by rw [hvs]; exact tLc_of hsub h⟩
end

/-! ### statements -/
inductive Out where
  | nx (τ : Env)
  | rt (d : D)
def PostO (K : PySem.W.Frag) (H0 : Hp) (κ' : Kds) (ρr : Res) (D : Ends) (H : Hp) (o : Out) : Prop :=
  match o with
  | .nx τ => ∀ σ' H', Pers H H' → Rep K H0 H' κ' σ' τ → D.nx σ' H'
  | .rt d => ∀ v H', Same H0 H' → ρr K H0 H' v d → D.rt v H'
def tS (K : PySem.W.Frag) (mg : Str → Option Value) (H0 : Hp) (W : XK) (ρr : Res) (κ κ' : Kds) (g : Env → R Out) : TS := fun D σ H => ∃ τ, Rep K H0 H κ σ τ ∧ PostA mg W H0 (g τ) (PostO K H0 κ' ρr D H)
structure DS (X : Cx) (H0 : Hp) (W : XK) (ρr : Res) (κ : Kds) (st : Stmt) (g : Env → R Out) (κ' : Kds) : Prop where
  ps : PS X st (tS X.K X.mg H0 W ρr κ κ' g)
structure DSs (X : Cx) (H0 : Hp) (W : XK) (ρr : Res) (κ : Kds) (sts : List Stmt) (g : Env → R Out) (κ' : Kds) : Prop where
  pss : PSs X sts (tS X.K X.mg H0 W ρr κ κ' g)
theorem _root_.L2.PS.cons {X : Cx} {e : Stmt} {t t' : TS} (h : PS X e t) (i : ∀ D σ H, t' D σ H → t D σ H) : PS X e t' :=
  ⟨fun pins s σ H D I z => h.run pins s σ H D I (i D σ H z)⟩
theorem _root_.L2.PSs.cons {X : Cx} {e : List Stmt} {t t' : TS} (h : PSs X e t) (i : ∀ D σ H, t' D σ H → t D σ H) : PSs X e t' :=
  ⟨fun pins s σ H D I z => h.run pins s σ H D I (i D σ H z)⟩
def sNext : Env → R Out := fun τ => .ok (.nx τ)
def sSeq (g1 g2 : Env → R Out) : Env → R Out := fun τ => (g1 τ).bind fun o => match o with | .nx τ' => g2 τ' | .rt d => .ok (.rt d)
def sDo (f : Env → R D) : Env → R Out := fun τ => (f τ).bind fun _ => .ok (.nx τ)
def sRet (f : Env → R D) : Env → R Out := fun τ => (f τ).bind fun d => .ok (.rt d)
def sRetN : Env → R Out := fun _ => .ok (.rt .none)
def sIf (c : Env → R Bool) (g1 g2 : Env → R Out) : Env → R Out := fun τ => (c τ).bind fun k => if k = true then g1 τ else g2 τ
def sSet (i : Nat) (f : Env → R D) : Env → R Out := fun τ => (f τ).bind fun d => .ok (.nx (τ.set i (some d)))
def sUn (f : Env → R D) (b : D → Env → R Env) : Env → R Out := fun τ => (f τ).bind fun d => (b d τ).calm.bind fun τ' => .ok (.nx τ')
def sForget (L : List Nat) : Env → R Out := fun τ => .ok (.nx (wipeE τ L))
section
variable {X : Cx} {H0 : Hp} {W : XK} {ρ ρr : Res} {κ κ1 κ2 : Kds} {st : Stmt} {sts rest body orelse : List Stmt} {g g1 g2 : Env → R Out} {e c : Expr} {f : Env → R D} {tc : Env → R Bool} {pos pos' : Pos} {i : Nat} {x : Str} {b : D → Env → R Env} {vs : List Nat}
theorem PostO.pers {K : PySem.W.Frag} {D : Ends} {H H' : Hp} {o : Out} (h : PostO K H0 κ1 ρr D H o) (p : Pers H H') : PostO K H0 κ1 ρr D H' o := by
  cases o with
  | nx τ => exact fun σ' H2 p2 r => h σ' H2 (p.trans p2) r
  | rt d => exact h
/-- an expression's outcome, from a statement's -/
theorem post_e {α : Type} {mg : Str → Option Value} {H : Hp} {r : R α} {A : α → Prop} (h : PostA mg W H0 r A) (s : Same H0 H) : PostA mg W H r A := PostA.to h s
theorem dss_nil : DSs X H0 W ρr κ [] sNext κ := ⟨pss_nil.cons fun D σ H ⟨τ, r, q⟩ => q σ H (Pers.refl H) r⟩
theorem dss_cons (h1 : DS X H0 W ρr κ st g1 κ1) (h2 : DSs X H0 W ρr κ1 rest g2 κ2) : DSs X H0 W ρr κ (st :: rest) (sSeq g1 g2) κ2 :=
  ⟨(pss_cons h1.ps h2.pss).cons fun D σ H ⟨τ, r, q⟩ => ⟨τ, r, PostA.imp (PostA.bind q) fun o qo => by
    cases o with
    | nx τ' => exact fun σ' H' p r' => ⟨τ', r', PostA.imp qo fun o2 q2 => PostO.pers q2 p⟩
    | rt d => exact qo⟩⟩
theorem dss_one (h1 : DS X H0 W ρr κ st g1 κ1) : DSs X H0 W ρr κ [st] g1 κ1 := ⟨pss_one h1.ps⟩
/-- slots are forgotten at a block's end; their kinds are free -/
theorem rep_forgets {K : PySem.W.Frag} {H : Hp} {σ : L2.St} {τ : Env} (r : Rep K H0 H κ σ τ) : ∀ (L : List (Nat × Kd)), Rep K H0 H (L.foldr (fun p k => k.set p.1 p.2) κ) σ (wipeE τ (L.map (·.1)))
  | [] => r
  | p :: L => (rep_forgets r L).forget p.1 p.2
theorem dss_end (L : List (Nat × Kd)) : DSs X H0 W ρr κ [] (sForget (L.map (·.1))) (L.foldr (fun p k => k.set p.1 p.2) κ) :=
  ⟨pss_nil.cons fun D σ H ⟨τ, r, q⟩ => q σ H (Pers.refl H) (rep_forgets r L)⟩
/-- .. ahead of the rest -/
theorem dss_forget (L : List (Nat × Kd)) (h : DSs X H0 W ρr (L.foldr (fun p k => k.set p.1 p.2) κ) sts g κ1) : DSs X H0 W ρr κ sts (sSeq (sForget (L.map (·.1))) g) κ1 :=
  ⟨h.pss.cons fun D σ H ⟨τ, r, q⟩ => ⟨_, rep_forgets r L, q⟩⟩
theorem ds_pass : DS X H0 W ρr κ (.Pass pos) sNext κ := ⟨ps_pass.cons fun D σ H ⟨τ, r, q⟩ => q σ H (Pers.refl H) r⟩
theorem ds_expr (h : DE X H0 W κ ρ e f) (hs : swapsWith e none pos.line X.env = pure false := by rfl) : DS X H0 W ρr κ (.Expr e pos) (sDo f) κ :=
  ⟨(ps_expr h.pe hs).cons fun D σ H ⟨τ, r, q⟩ => ⟨τ, r, PostA.imp (PostA.to (PostA.bind q) r.same) fun d qd v H1 s1 _ => qd σ H1 (Same.pers s1) (r.to s1)⟩⟩
theorem ds_ret (hρ : ρ.Good) (h : DE X H0 W κ ρ e f) (l : Res.Le ρ ρr) : DS X H0 W ρr κ (.Return (some e) pos) (sRet f) κ1 :=
  ⟨(ps_ret h.pe).cons fun D σ H ⟨τ, r, q⟩ => ⟨τ, r, PostA.imp (PostA.to (PostA.bind q) r.same) fun d qd v H1 s1 hv => qd v H1 (r.same.trans s1) (l.le _ _ _ _ _ (hρ.anti _ _ _ _ _ _ r.same hv))⟩⟩
theorem ds_retN (l : Res.Le rI ρr) : DS X H0 W ρr κ (.Return none pos) sRetN κ1 :=
  ⟨ps_retN.cons fun D σ H ⟨τ, r, q⟩ => q .non H r.same (l.le _ _ _ _ _ .non)⟩
/-- an own list is handed back -/
def sRetL (i : Nat) : Env → R Out := fun τ => match τ[i]? with | some (some (.list xs)) => .ok (.rt (.list xs)) | _ => .bad
theorem ds_retL (i : Nat) {x : Str} {p2 : Pos} (hk : kd κ i = .own := by rfl) (hN : X.N[i]? = some x := by rfl) (hv : Vis X.env.scope x := by first | exact Or.inl rfl | exact Or.inr (Or.inl rfl) | exact Or.inr (Or.inr rfl))
    (hd : (x == ("__debug__" : Str)) = false := by decide) (hcd : (x == ("__classdict__" : Str)) = false := by decide) (l : Res.Le rN ρr) : DS X H0 W ρr κ (.Return (some (.Name x p2)) pos) (sRetL i) κ1 :=
  ⟨(ps_ret (pe_var hN hv hd hcd)).cons fun D σ H ⟨τ, r, q⟩ => by
    unfold sRetL at q
    split at q
    · rename_i xs e
      obtain ⟨a, h1, h2, h3⟩ := r.own i _ e hk
      exact ⟨.ref a, h1, q (.ref a) H r.same (l.le _ _ _ _ _ ⟨a, _, rfl, rfl, h2, h3⟩)⟩
    · exact q.elim⟩
/-- .. an own dict -/
def sRetM (i : Nat) : Env → R Out := fun τ => match τ[i]? with | some (some (.dict xs)) => .ok (.rt (.dict xs)) | _ => .bad
theorem ds_retM (i : Nat) {x : Str} {p2 : Pos} (hk : kd κ i = .own := by rfl) (hN : X.N[i]? = some x := by rfl) (hv : Vis X.env.scope x := by first | exact Or.inl rfl | exact Or.inr (Or.inl rfl) | exact Or.inr (Or.inr rfl))
    (hd : (x == ("__debug__" : Str)) = false := by decide) (hcd : (x == ("__classdict__" : Str)) = false := by decide) (l : Res.Le rM ρr) : DS X H0 W ρr κ (.Return (some (.Name x p2)) pos) (sRetM i) κ1 :=
  ⟨(ps_ret (pe_var hN hv hd hcd)).cons fun D σ H ⟨τ, r, q⟩ => by
    unfold sRetM at q
    split at q
    · rename_i xs e
      obtain ⟨a, h1, h2, h3⟩ := r.own i _ e hk
      exact ⟨.ref a, h1, q (.ref a) H r.same (l.le _ _ _ _ _ ⟨a, _, rfl, rfl, h2, h3⟩)⟩
    · exact q.elim⟩
theorem ds_if (hc : DT X H0 W κ c tc) (ha : DSs X H0 W ρr κ body g1 κ1) (hb : DSs X H0 W ρr κ orelse g2 κ1) : DS X H0 W ρr κ (.If c body orelse pos) (sIf tc g1 g2) κ1 :=
  ⟨(ps_if hc.pt ha.pss hb.pss).cons fun D σ H ⟨τ, r, q⟩ => ⟨τ, r, PostA.imp (PostA.to (PostA.bind q) r.same) fun k qk H1 s1 => by
    cases k with
    | true => rw [if_pos rfl] at qk ⊢; exact ⟨τ, r.to s1, PostA.imp qk fun o qo => PostO.pers qo (Same.pers s1)⟩
    | false => rw [if_neg (by decide)] at qk ⊢; exact ⟨τ, r.to s1, PostA.imp qk fun o qo => PostO.pers qo (Same.pers s1)⟩⟩⟩

/-! stores -/
theorem set_of (h : ∃ te, PS X st (tAsg te (gName i)) ∧ ∀ σ H Q, tD X.K X.mg H0 W κ rI f σ H Q → te σ H Q) (hk : i < κ.length) : DS X H0 W ρr κ st (sSet i f) (κ.set i .imm) := by
  obtain ⟨te, hp, ht⟩ := h
  exact ⟨hp.cons fun D σ H ⟨τ, r, q⟩ => ht _ _ _ ⟨τ, r, PostA.imp (PostA.to (PostA.bind q) r.same) fun d qd v H1 s1 hv => qd _ H1 (Same.pers s1) ((r.to s1).setI hk hv)⟩⟩
theorem setF_of (h : ∃ te, PS X st (tAsg te (gName i)) ∧ ∀ σ H Q, tD X.K X.mg H0 W κ rF f σ H Q → te σ H Q) (hk : i < κ.length) : DS X H0 W ρr κ st (sSet i f) (κ.set i .dct) := by
  obtain ⟨te, hp, ht⟩ := h
  exact ⟨hp.cons fun D σ H ⟨τ, r, q⟩ => ht _ _ _ ⟨τ, r, PostA.imp (PostA.to (PostA.bind q) r.same) fun d qd v H1 s1 hv => qd _ H1 (Same.pers s1) ((r.to s1).setF hk hv)⟩⟩
theorem setN_of (h : ∃ te, PS X st (tAsg te (gName i)) ∧ ∀ σ H Q, tD X.K X.mg H0 W κ rN f σ H Q → te σ H Q) (hk : i < κ.length) : DS X H0 W ρr κ st (sSet i f) (κ.set i .own) := by
  obtain ⟨te, hp, ht⟩ := h
  exact ⟨hp.cons fun D σ H ⟨τ, r, q⟩ => ht _ _ _ ⟨τ, r, PostA.imp (PostA.to (PostA.bind q) r.same) fun d qd v H1 s1 hv => by
    obtain ⟨a, _, rfl, _, n, o⟩ := hv
    exact qd _ H1 (Same.pers s1) (r.setN s1 hk n o)⟩⟩
theorem setM_of (h : ∃ te, PS X st (tAsg te (gName i)) ∧ ∀ σ H Q, tD X.K X.mg H0 W κ rM f σ H Q → te σ H Q) (hk : i < κ.length) : DS X H0 W ρr κ st (sSet i f) (κ.set i .own) := by
  obtain ⟨te, hp, ht⟩ := h
  exact ⟨hp.cons fun D σ H ⟨τ, r, q⟩ => ht _ _ _ ⟨τ, r, PostA.imp (PostA.to (PostA.bind q) r.same) fun d qd v H1 s1 hv => by
    obtain ⟨a, _, rfl, _, n, o⟩ := hv
    exact qd _ H1 (Same.pers s1) (r.setN s1 hk n o)⟩⟩
theorem pse {te : TE} (hN : X.N.Nodup) (hi : X.N[i]? = some x) (hx : Loc X.env.scope x) (he : PE X e te) (hs : swapsWith e (some (.Name x pos')) pos.line X.env = pure false := by rfl) (hf : X.fn x = true ∨ X.env.scope.names.lookup x = some .local := by first | exact .inl rfl | exact .inr rfl | assumption) :
    ∃ te', PS X (.Assign [.Name x pos'] e pos) (tAsg te' (gName i)) ∧ ∀ σ H Q, te σ H Q → te' σ H Q := ⟨te, ps_set hN hi hx he hs hf, fun _ _ _ h => h⟩
theorem ds_set (hN : X.N.Nodup) (hi : X.N[i]? = some x) (hx : Loc X.env.scope x) (he : DE X H0 W κ rI e f) (hk : i < κ.length := by decide) (hs : swapsWith e (some (.Name x pos')) pos.line X.env = pure false := by rfl) (hf : X.fn x = true ∨ X.env.scope.names.lookup x = some .local := by first | exact .inl rfl | exact .inr rfl | assumption) :
    DS X H0 W ρr κ (.Assign [.Name x pos'] e pos) (sSet i f) (κ.set i .imm) := set_of (pse hN hi hx he.pe hs hf) hk
theorem ds_setF (hN : X.N.Nodup) (hi : X.N[i]? = some x) (hx : Loc X.env.scope x) (he : DE X H0 W κ rF e f) (hk : i < κ.length := by decide) (hs : swapsWith e (some (.Name x pos')) pos.line X.env = pure false := by rfl) (hf : X.fn x = true ∨ X.env.scope.names.lookup x = some .local := by first | exact .inl rfl | exact .inr rfl | assumption) :
    DS X H0 W ρr κ (.Assign [.Name x pos'] e pos) (sSet i f) (κ.set i .dct) := setF_of (pse hN hi hx he.pe hs hf) hk
theorem ds_setN (hN : X.N.Nodup) (hi : X.N[i]? = some x) (hx : Loc X.env.scope x) (he : DE X H0 W κ rN e f) (hk : i < κ.length := by decide) (hs : swapsWith e (some (.Name x pos')) pos.line X.env = pure false := by rfl) (hf : X.fn x = true ∨ X.env.scope.names.lookup x = some .local := by first | exact .inl rfl | exact .inr rfl | assumption) :
    DS X H0 W ρr κ (.Assign [.Name x pos'] e pos) (sSet i f) (κ.set i .own) := setN_of (pse hN hi hx he.pe hs hf) hk
theorem ds_setM (hN : X.N.Nodup) (hi : X.N[i]? = some x) (hx : Loc X.env.scope x) (he : DE X H0 W κ rM e f) (hk : i < κ.length := by decide) (hs : swapsWith e (some (.Name x pos')) pos.line X.env = pure false := by rfl) (hf : X.fn x = true ∨ X.env.scope.names.lookup x = some .local := by first | exact .inl rfl | exact .inr rfl | assumption) :
    DS X H0 W ρr κ (.Assign [.Name x pos'] e pos) (sSet i f) (κ.set i .own) := setM_of (pse hN hi hx he.pe hs hf) hk
/-- a, b, .. = e -/
theorem ds_un {tg : Expr} (he : DE X H0 W κ rI e f) (hg : DP X H0 κ tg vs b κ1) (hs : swapsWithSole [tg] e pos.line X.env = pure false := by rfl) (hw : swappedStores [tg] e X.env = pure none := by rfl) (h1 : (assignEach [tg] X.env).map (·.2) = [assign tg X.env] := by rfl) :
    DS X H0 W ρr κ (.Assign [tg] e pos) (sUn f b) κ1 :=
  ⟨(ps_asg he.pe hg.pg hs hw h1).cons fun D σ H ⟨τ, r, q⟩ => ⟨τ, r, PostA.imp (PostA.to (PostA.bind q) r.same) fun d qd v H1 s1 hv => ⟨τ, d, r.to s1, hv, by
    obtain ⟨τ1, e1, qb⟩ := lc_ok (PostA.bind qd)
    rw [e1]
    exact fun σ' r' _ => qb σ' H1 (Same.pers s1) r'⟩⟩⟩
end
end PL
set_option Elab.async false
set_option linter.all false
set_option maxRecDepth 100000
set_option maxHeartbeats 1000000
/-! PL10: loops; lists that are written; what a def is. -/
namespace PL
open PySem PySem.Spec PyProof.Rows L2

def forGo (b : D → Env → R Env) (g : Env → R Out) : List D → Env → R Out
  | [], τ => .ok (.nx τ)
  | d :: ds, τ => (b d τ).calm.bind fun τ1 => (g τ1).bind fun o => match o with | .nx τ2 => forGo b g ds τ2 | .rt d => .ok (.rt d)
def sFor (it : Env → R (List D)) (b : D → Env → R Env) (g : Env → R Out) : Env → R Out := fun τ => (it τ).bind fun ds => forGo b g ds τ
def whileGo (c : Env → R Bool) (g : Env → R Out) : Nat → Env → R Out
  | 0, _ => .bad
  | n + 1, τ => (c τ).bind fun k => if k = true then (g τ).bind fun o => match o with | .nx τ2 => whileGo c g n τ2 | .rt d => .ok (.rt d) else .ok (.nx τ)
open Classical in
/-- a while comes to what it comes to in some number of turns -/
noncomputable def sWhile (c : Env → R Bool) (g : Env → R Out) : Env → R Out := fun τ => if h : ∃ n r, whileGo c g n τ = r ∧ r ≠ .bad then whileGo c g h.choose τ else .bad
theorem whileGo_mono (c : Env → R Bool) (g : Env → R Out) : ∀ (n m : Nat) (τ : Env), n ≤ m → whileGo c g n τ ≠ .bad → whileGo c g m τ = whileGo c g n τ
  | 0, _, _, _, h => absurd rfl h
  | n + 1, 0, _, h, _ => absurd h (by omega)
  | n + 1, m + 1, τ, h, hb => by
    unfold whileGo at hb ⊢
    cases hc : c τ with
    | err e => rfl
    | bad => rfl
    | ok k =>
      rw [hc] at hb
      simp only [R.bind_ok] at hb ⊢
      cases k with
      | false => rfl
      | true =>
        simp only [if_true] at hb ⊢
        cases hg : g τ with
        | err e => rfl
        | bad => rfl
        | ok o =>
          rw [hg] at hb
          simp only [R.bind_ok] at hb ⊢
          cases o with
          | rt d => rfl
          | nx τ2 => exact whileGo_mono c g n m τ2 (by omega) hb
theorem sWhile_eq {c : Env → R Bool} {g : Env → R Out} {n : Nat} {τ : Env} {r : R Out} (h : whileGo c g n τ = r) (hb : r ≠ .bad) : sWhile c g τ = r := by
  have hx : ∃ n r, whileGo c g n τ = r ∧ r ≠ .bad := ⟨n, r, h, hb⟩
  unfold sWhile
  rw [dif_pos hx]
  obtain ⟨r', h1, h2⟩ := hx.choose_spec
  have a1 := whileGo_mono c g hx.choose (max n hx.choose) τ (Nat.le_max_right _ _) (by rw [h1]; exact h2)
  have a2 := whileGo_mono c g n (max n hx.choose) τ (Nat.le_max_left _ _) (by rw [h]; exact hb)
  rw [← a1, a2, h]
section
variable {X : Cx} {H0 : Hp} {W : XK} {ρ ρr : Res} {κ κ1 κ2 : Kds} {st : Stmt} {sts rest body orelse : List Stmt} {g g1 g2 : Env → R Out} {e c tg iter : Expr} {f : Env → R D} {tc : Env → R Bool} {fi : Env → R (List D)} {pos pos' : Pos} {i : Nat} {x : Str} {b : D → Env → R Env} {vs : List Nat}
theorem ds_for (hp : PassesOwn (model X.prog X.w) X.A X.env X.xe) (hc : X.calm = true) (hi : DI X H0 W κ tg iter fi) (hg : DP X H0 κ tg vs b κ1) (hb : DSs X H0 W ρr κ1 body g κ) (hs : ∀ x, foldedSetIterable iter X.env x = pure x := by intro _; rfl) :
    DS X H0 W ρr κ (.For tg iter body [] pos) (sFor fi b g) κ :=
  ⟨(ps_for hp hc hi.pi hg.pg hb.pss hs).cons fun D σ H ⟨τ, r, q⟩ => ⟨τ, r, PostA.imp (PostA.to (PostA.bind q) r.same) fun ds qd J H1 s1 ok => by
    refine ⟨fun i m σ H2 => i + m = ds.length ∧ Pers H1 H2 ∧ ∃ τ', Rep X.K H0 H2 κ σ τ' ∧ PostA X.mg W H0 (forGo b g (ds.drop i) τ') (PostO X.K H0 κ ρr D H2), ⟨ds.length, by omega, Pers.refl _, τ, r.to s1, PostA.imp qd fun o qo => PostO.pers qo (Same.pers s1)⟩, fun i m σ2 H2 hW => ?_⟩
    obtain ⟨em, pe, τ', r', q'⟩ := hW
    by_cases hi : i < ds.length
    · refine .inr ⟨ok.go H2 i pe hi, fun σ' H' => i + 1 + (m - 1) = ds.length ∧ Pers H1 H' ∧ ∃ τ', Rep X.K H0 H' κ σ' τ' ∧ PostA X.mg W H0 (forGo b g (ds.drop (i + 1)) τ') (PostO X.K H0 κ ρr D H'), fun σ' H' hN => ⟨m - 1, by omega, hN⟩, fun x H3 hy => ?_⟩
      have hd : ds[i]? = some ds[i] := List.getElem?_eq_getElem hi
      obtain ⟨s3, ix⟩ := ok.yld H2 i x H3 ds[i] pe hy hd
      rw [List.drop_eq_getElem_cons hi] at q'
      obtain ⟨τ1, eb, q2⟩ := lc_ok (PostA.bind (show PostA X.mg W H0 ((b ds[i] τ').calm.bind _) _ from q'))
      refine ⟨τ', ds[i], r'.to s3, ix, ?_⟩
      rw [eb]
      intro σ3 r3 _
      refine ⟨τ1, r3, PostA.imp (PostA.bind q2) fun o qo => ?_⟩
      have p3 : Pers H2 H3 := Same.pers s3
      cases o with
      | nx τ2 => exact fun σ' H' p r4 => ⟨by omega, pe.trans (p3.trans p), τ2, r4, PostA.imp qo fun o2 q2 => PostO.pers q2 (p3.trans p)⟩
      | rt d => exact qo
    · refine .inl ⟨ok.stop H2 i pe (by omega), ?_⟩
      rw [List.drop_eq_nil_of_le (by omega)] at q'
      exact q' σ2 H2 (Pers.refl _) r'⟩⟩
theorem ds_while (hp : PassesOwn (model X.prog X.w) X.A X.env X.xe) (hc : DT X H0 W κ c tc) (hb : DSs X H0 W ρr κ body g κ) : DS X H0 W ρr κ (.While c body [] pos) (sWhile tc g) κ :=
  ⟨(ps_while hp hc.pt hb.pss).cons fun D σ H ⟨τ, r, q⟩ => by
    by_cases hx : ∃ n r, whileGo tc g n τ = r ∧ r ≠ .bad
    · obtain ⟨n, rr, h1, h2⟩ := hx
      rw [sWhile_eq h1 h2, ← h1] at q
      refine ⟨fun m σ2 H2 => Pers H H2 ∧ ∃ τ', Rep X.K H0 H2 κ σ2 τ' ∧ PostA X.mg W H0 (whileGo tc g m τ') (PostO X.K H0 κ ρr D H2), ⟨n, Pers.refl _, τ, r, q⟩, fun m σ2 H2 hW => ?_⟩
      obtain ⟨pe, τ', r', q'⟩ := hW
      cases m with
      | zero => exact q'.elim
      | succ m =>
        refine ⟨τ', r', PostA.imp (PostA.to (PostA.bind q') r'.same) fun k qk H3 s3 => ?_⟩
        have p3 : Pers H2 H3 := Same.pers s3
        cases k with
        | true =>
          rw [if_pos rfl] at qk
          show if true = true then _ else _
          rw [if_pos rfl]
          refine ⟨fun σ' H' => Pers H H' ∧ ∃ τ', Rep X.K H0 H' κ σ' τ' ∧ PostA X.mg W H0 (whileGo tc g m τ') (PostO X.K H0 κ ρr D H'), fun σ' H' hN => ⟨m, by omega, hN⟩, τ', r'.to s3, PostA.imp (PostA.bind qk) fun o qo => ?_⟩
          cases o with
          | nx τ2 => exact fun σ' H' p r4 => ⟨pe.trans (p3.trans p), τ2, r4, PostA.imp qo fun o2 q2 => PostO.pers q2 (p3.trans p)⟩
          | rt d => exact qo
        | false =>
          rw [if_neg (by decide)] at qk
          show if false = true then _ else _
          rw [if_neg (by decide)]
          exact qk σ2 H3 p3 (r'.to s3)
    · have : sWhile tc g τ = .bad := by unfold sWhile; rw [dif_neg hx]
      rw [this] at q
      exact q.elim⟩

/-! ### lists that are written -/
def listAt (i : Nat) (τ : Env) : R (List D) := match τ[i]? with | some (some (.list xs)) => .ok xs | _ => .bad
theorem post_list {mg : Str → Option Value} {H : Hp} {i : Nat} {τ : Env} {A : List D → Prop} (h : PostA mg W H (listAt i τ) A) : ∃ xs, τ[i]? = some (some (.list xs)) ∧ A xs := by
  unfold listAt at h
  split at h
  · rename_i xs e; exact ⟨xs, e, h⟩
  · exact h.elim
/-- the own list at slot i is put in place of -/
theorem Rep.putL {K : PySem.W.Frag} {H : Hp} {σ : L2.St} {τ : Env} (r : Rep K H0 H κ σ τ) {a : Addr} {ds es : List D} {ys : List V} (hk : kd κ i = .own) (e : τ[i]? = some (some (.list ds))) (hs : σ[i]? = some (some (.ref a))) (hz : es.length ≤ sizeLine) (hi : ImAll K H ys es) (m : Mut (H a)) :
    Rep K H0 (upd H a (.lst ys)) κ σ (τ.set i (some (.list es))) := r.write e hk hs (.lst upd_same hz (hi.mono (pers_upd m)))
theorem own_list {K : PySem.W.Frag} {H : Hp} {σ : L2.St} {τ : Env} (r : Rep K H0 H κ σ τ) {ds : List D} (hk : kd κ i = .own) (e : τ[i]? = some (some (.list ds))) : ∃ a xs, σ[i]? = some (some (.ref a)) ∧ H a = some (.lst xs) ∧ ImAll K H xs ds ∧ ds.length ≤ sizeLine := by
  obtain ⟨a, h1, _, h3⟩ := r.own i _ e hk
  cases h3 with
  | lst h z i => exact ⟨a, _, h1, h, i, z⟩
def sApp (i : Nat) (f : Env → R D) : Env → R Out := fun τ => (listAt i τ).bind fun xs => (f τ).bind fun d => if xs.length < sizeLine then .ok (.nx (τ.set i (some (.list (xs ++ [d]))))) else .bad
/-- x.append(e), x a slot of one's own -/
theorem ds_app (i : Nat) {apos cpos p2 : Pos} (hk : kd κ i = .own) (he : DE X H0 W κ rI e f) (hN : X.N[i]? = some x := by rfl) (hv : Vis X.env.scope x := by first | exact Or.inl rfl | exact Or.inr (Or.inl rfl) | exact Or.inr (Or.inr rfl))
    (hd : (x == ("__debug__" : Str)) = false := by decide) (hcd : (x == ("__classdict__" : Str)) = false := by decide)
    (hbase : attributeBase (.Name x p2) "append" X.env (eval (.Name x p2) X.env) = eval (.Name x p2) X.env := by rfl)
    (hfew : ((backTo cpos (starEach [e] X.env)).all (fun x => !x.1) && (backToKw cpos (keywordEach [] X.env)).all (fun x => x.1.isSome)
      && decide (([e] : List Expr).length + ([] : List Keyword).length + (if ([] : List Keyword).isEmpty then 0 else 1) < 30)) = true := by rfl)
    (hline : (apos.endLine == cpos.line) = true := by rfl) (hs : starEach [e] X.env = (false, eval e X.env) :: starEach [] X.env := by rfl) (hplain : (backTo cpos (starEach [] X.env)).any (·.1) = false := by rfl)
    (hsw : swapsWith (.Call (.Attribute (.Name x p2) "append" apos) [e] [] cpos) none pos.line X.env = pure false := by rfl) :
    DS X H0 W ρr κ (.Expr (.Call (.Attribute (.Name x p2) "append" apos) [e] [] cpos) pos) (sApp i f) κ :=
  ⟨(ps_expr (pe_bm PySem.F.plainAttrs_list PySem.F.slot_list_append PySem.F.type_list_append mt_append (pe_var hN hv hd hcd) (pa_cons he.pe pa_nil hs) hbase hfew hline hs hplain) hsw).cons fun D σ H ⟨τ, r, q⟩ => by
    obtain ⟨ds, e1, q1⟩ := post_list (PostA.bind q)
    obtain ⟨a, xs, h1, h2, h3, h4⟩ := own_list r hk e1
    refine ⟨.ref a, h1, .inl ⟨rfl, xs, .inl (.inl h2)⟩, τ, r, PostA.imp (PostA.to (PostA.bind q1) r.same) fun d qd v H1 s1 hv1 => ?_⟩
    by_cases hz : ds.length < sizeLine
    · rw [if_pos hz] at qd
      have h2' := s1 _ _ h2
      have l := h3.length
      refine ⟨a, xs, v, rfl, rfl, h2', by omega, ?_⟩
      have m : Mut (H1 a) := by rw [h2']; trivial
      exact qd σ _ ((Same.pers s1).trans (pers_upd m)) ((r.to s1).putL hk e1 h1 (by rw [List.length_append]; simp; omega) ((h3.mono (Same.pers s1)).append (.one hv1)) m)
    · rw [if_neg hz] at qd; exact qd.elim⟩
end
end PL
set_option Elab.async false
set_option linter.all false
set_option maxRecDepth 100000
set_option maxHeartbeats 1000000
/-! PL11: pop, stores into lists, raise, keeping; what a def is. -/
namespace PL
open PySem PySem.Spec PyProof.Rows L2
section
variable {X : Cx} {H0 : Hp} {W : XK} {ρ ρr : Res} {κ κ1 κ2 : Kds} {st : Stmt} {sts rest body orelse : List Stmt} {g g1 g2 : Env → R Out} {e c tg iter : Expr} {f fa fb : Env → R D} {tc : Env → R Bool} {fi : Env → R (List D)} {pos pos' p2 apos cpos : Pos} {i j : Nat} {x y : Str} {b : D → Env → R Env} {vs : List Nat}
/-- the last one of the own list at slot i goes to slot j -/
def sPop (i j : Nat) : Env → R Out := fun τ => (listAt i τ).bind fun xs => match xs[xs.length - 1]? with | some d => .ok (.nx ((τ.set i (some (.list xs.dropLast))).set j (some d))) | none => .bad
theorem dropLast_len {α : Type} (xs : List α) : xs.dropLast.length ≤ xs.length := by simp
theorem ImAll.dropLast {K : PySem.W.Frag} {H : Hp} {vs : List V} {ds : List D} (h : ImAll K H vs ds) : ImAll K H vs.dropLast ds.dropLast := by
  rw [List.dropLast_eq_take, List.dropLast_eq_take, h.length]
  exact h.take _
theorem ds_pop (i j : Nat) (hk : kd κ i = .own) (hij : i ≠ j) (hN : X.N.Nodup) (hj : X.N[j]? = some y) (hx : Loc X.env.scope y) (hi : X.N[i]? = some x := by rfl) (hv : Vis X.env.scope x := by first | exact Or.inl rfl | exact Or.inr (Or.inl rfl) | exact Or.inr (Or.inr rfl))
    (hkj : j < κ.length := by decide) (hd : (x == ("__debug__" : Str)) = false := by decide) (hcd : (x == ("__classdict__" : Str)) = false := by decide)
    (hbase : attributeBase (.Name x p2) "pop" X.env (eval (.Name x p2) X.env) = eval (.Name x p2) X.env := by rfl) (hline : (apos.endLine == cpos.line) = true := by rfl)
    (hs : swapsWith (.Call (.Attribute (.Name x p2) "pop" apos) [] [] cpos) (some (.Name y pos')) pos.line X.env = pure false := by rfl) (hf : X.fn y = true ∨ X.env.scope.names.lookup y = some .local := by first | exact .inl rfl | exact .inr rfl | assumption) :
    DS X H0 W ρr κ (.Assign [.Name y pos'] (.Call (.Attribute (.Name x p2) "pop" apos) [] [] cpos) pos) (sPop i j) (κ.set j .imm) :=
  ⟨(ps_set hN hj hx (pe_bm0 PySem.F.plainAttrs_list PySem.F.slot_list_pop PySem.F.type_list_pop mt_pop (pe_var hi hv hd hcd) hbase hline) hs hf).cons fun D σ H ⟨τ, r, q⟩ => by
    obtain ⟨ds, e1, q1⟩ := post_list (PostA.bind q)
    obtain ⟨a, xs, h1, h2, h3, h4⟩ := own_list r hk e1
    have l := h3.length
    cases e2 : ds[ds.length - 1]? with
    | none => simp only [e2] at q1; exact q1.elim
    | some d =>
      simp only [e2] at q1
      obtain ⟨v, v1, v2⟩ := h3.get e2
      refine ⟨.ref a, h1, .inl ⟨rfl, xs, .inl (.inl h2)⟩, a, xs, v, rfl, rfl, h2, by rw [l]; exact v1, ?_⟩
      have m : Mut (H a) := by rw [h2]; trivial
      have r' := r.putL (ys := xs.dropLast) hk e1 h1 (Nat.le_trans (dropLast_len ds) h4) h3.dropLast m
      exact q1 _ _ (pers_upd m) (r'.setI hkj (v2.mono (pers_upd m)))⟩
/-- .. the one at a place -/
def placeOf (d : D) (xs : List D) : R Nat := match d with
  | .int k => if -(2 ^ 63) ≤ k ∧ k < 2 ^ 63 then match seqIndex? k xs.length with | some n => .ok n | none => .bad else .bad
  | _ => .bad
def sPopAt (i j : Nat) (f : Env → R D) : Env → R Out := fun τ => (listAt i τ).bind fun xs => (f τ).bind fun d => (placeOf d xs).bind fun n => match xs[n]? with | some y => .ok (.nx ((τ.set i (some (.list (xs.eraseIdx n)))).set j (some y))) | none => .bad
theorem erase_len {α : Type} (xs : List α) (n : Nat) : (xs.eraseIdx n).length ≤ xs.length := by
  rw [List.length_eraseIdx]; split <;> omega
theorem post_place {mg : Str → Option Value} {H : Hp} {d : D} {xs : List D} {A : Nat → Prop} (h : PostA mg W H (placeOf d xs) A) : ∃ k n, d = .int k ∧ -(2 ^ 63) ≤ k ∧ k < 2 ^ 63 ∧ seqIndex? k xs.length = some n ∧ A n := by
  cases d <;> try exact h.elim
  rename_i k
  unfold placeOf at h
  by_cases hz : -(2 ^ 63) ≤ k ∧ k < 2 ^ 63
  · simp only [if_pos hz] at h
    cases e : seqIndex? k xs.length with
    | none => simp only [e] at h; exact h.elim
    | some n => simp only [e] at h; exact ⟨k, n, rfl, hz.1, hz.2, e, h⟩
  · simp only [if_neg hz] at h; exact h.elim
theorem ds_popAt (i j : Nat) (hk : kd κ i = .own) (hN : X.N.Nodup) (hj : X.N[j]? = some y) (hx : Loc X.env.scope y) (he : DE X H0 W κ rI e f) (hi : X.N[i]? = some x := by rfl) (hv : Vis X.env.scope x := by first | exact Or.inl rfl | exact Or.inr (Or.inl rfl) | exact Or.inr (Or.inr rfl))
    (hkj : j < κ.length := by decide) (hd : (x == ("__debug__" : Str)) = false := by decide) (hcd : (x == ("__classdict__" : Str)) = false := by decide)
    (hbase : attributeBase (.Name x p2) "pop" X.env (eval (.Name x p2) X.env) = eval (.Name x p2) X.env := by rfl)
    (hfew : ((backTo cpos (starEach [e] X.env)).all (fun x => !x.1) && (backToKw cpos (keywordEach [] X.env)).all (fun x => x.1.isSome)
      && decide (([e] : List Expr).length + ([] : List Keyword).length + (if ([] : List Keyword).isEmpty then 0 else 1) < 30)) = true := by rfl)
    (hline : (apos.endLine == cpos.line) = true := by rfl) (hst : starEach [e] X.env = (false, eval e X.env) :: starEach [] X.env := by rfl) (hplain : (backTo cpos (starEach [] X.env)).any (·.1) = false := by rfl)
    (hs : swapsWith (.Call (.Attribute (.Name x p2) "pop" apos) [e] [] cpos) (some (.Name y pos')) pos.line X.env = pure false := by rfl) (hf : X.fn y = true ∨ X.env.scope.names.lookup y = some .local := by first | exact .inl rfl | exact .inr rfl | assumption) :
    DS X H0 W ρr κ (.Assign [.Name y pos'] (.Call (.Attribute (.Name x p2) "pop" apos) [e] [] cpos) pos) (sPopAt i j f) (κ.set j .imm) :=
  ⟨(ps_set hN hj hx (pe_bm PySem.F.plainAttrs_list PySem.F.slot_list_pop PySem.F.type_list_pop mt_popAt (pe_var hi hv hd hcd) (pa_cons he.pe pa_nil hst) hbase hfew hline hst hplain) hs hf).cons fun D σ H ⟨τ, r, q⟩ => by
    obtain ⟨ds, e1, q1⟩ := post_list (PostA.bind q)
    obtain ⟨a, xs, h1, h2, h3, h4⟩ := own_list r hk e1
    have l := h3.length
    refine ⟨.ref a, h1, .inl ⟨rfl, xs, .inl (.inl h2)⟩, τ, r, PostA.imp (PostA.to (PostA.bind q1) r.same) fun d qd v H1 s1 hv1 => ?_⟩
    obtain ⟨k, n, rfl, k1, k2, en, q2⟩ := post_place (PostA.bind qd)
    cases hv1
    cases e2 : ds[n]? with
    | none => simp only [e2] at q2; exact q2.elim
    | some d =>
      simp only [e2] at q2
      have h2' := s1 _ _ h2
      have h3' := h3.mono (Same.pers s1)
      obtain ⟨v, v1, v2⟩ := h3'.get e2
      refine ⟨a, xs, k, n, v, rfl, rfl, h2', k1, k2, by rw [l]; exact en, v1, ?_⟩
      have m : Mut (H1 a) := by rw [h2']; trivial
      have r' := (r.to s1).putL (ys := xs.eraseIdx n) hk e1 h1 (Nat.le_trans (erase_len ds n) h4) (h3'.eraseIdx n) m
      exact q2 _ _ ((Same.pers s1).trans (pers_upd m)) (r'.setI hkj (v2.mono (pers_upd m)))⟩
/-- x[k] = e -/
def idxOf (d : D) (xs : List D) : R Nat := match d with
  | .int k => match ixN xs.length k with | some n => .ok n | none => .bad
  | _ => .bad
def sPut (i : Nat) (fk fv : Env → R D) : Env → R Out := fun τ => (fv τ).bind fun d => (listAt i τ).bind fun xs => (fk τ).bind fun k => (idxOf k xs).bind fun n => .ok (.nx (τ.set i (some (.list (xs.set n d)))))
theorem ds_put {idx : Expr} {spos : Pos} {fk fv : Env → R D} (i : Nat) (hk : kd κ i = .own) (he : DE X H0 W κ rI e fv) (hi : DE X H0 W κ rI idx fk) (hN : X.N[i]? = some x := by rfl) (hv : Vis X.env.scope x := by first | exact Or.inl rfl | exact Or.inr (Or.inl rfl) | exact Or.inr (Or.inr rfl))
    (hd : (x == ("__debug__" : Str)) = false := by decide) (hcd : (x == ("__classdict__" : Str)) = false := by decide)
    (ha : ∀ v, assign (.Subscript (.Name x p2) idx spos) X.env v = (do
      let ov ← holding [v] (eval (.Name x p2) X.env)
      let iv ← holding [v, ov] (eval idx X.env)
      standAt spos
      holding [v, ov, iv] (setItem ov iv v)
      release [v, ov, iv] []) := by intro _; rfl)
    (hs : swapsWithSole [.Subscript (.Name x p2) idx spos] e pos.line X.env = pure false := by rfl) (hw : swappedStores [.Subscript (.Name x p2) idx spos] e X.env = pure none := by rfl)
    (h1 : (assignEach [.Subscript (.Name x p2) idx spos] X.env).map (·.2) = [assign (.Subscript (.Name x p2) idx spos) X.env] := by rfl) :
    DS X H0 W ρr κ (.Assign [.Subscript (.Name x p2) idx spos] e pos) (sPut i fk fv) κ :=
  ⟨(ps_asg he.pe (pg_sub (pe_var hN hv hd hcd) hi.pe set_list ha) hs hw h1).cons fun D σ H ⟨τ, r, q⟩ => ⟨τ, r, PostA.imp (PostA.to (PostA.bind q) r.same) fun d qd v H1 s1 hv1 => by
    obtain ⟨ds, e1, q1⟩ := post_list (PostA.bind qd)
    have r1 := r.to s1
    obtain ⟨a, xs, h1, h2, h3, h4⟩ := own_list r1 hk e1
    have l := h3.length
    refine ⟨.ref a, h1, τ, r1, PostA.imp (PostA.to (PostA.bind q1) r1.same) fun k qk w H2 s2 hw2 => ?_⟩
    cases k <;> try exact qk.elim
    rename_i kk
    cases hw2
    cases en : ixN ds.length kk with
    | none => simp only [idxOf, en] at qk; exact qk.elim
    | some n =>
      simp only [idxOf, en, R.bind_ok] at qk
      have h2' := s2 _ _ h2
      have m : Mut (H2 a) := by rw [h2']; trivial
      refine ⟨a, xs, kk, n, rfl, rfl, h2', by rw [l]; exact en, ?_⟩
      have h3' := h3.mono (Same.pers s2)
      exact qk σ _ ((Same.pers (s1.trans s2)).trans (pers_upd m)) ((r1.to s2).putL hk e1 h1 (by rw [List.length_set]; exact h4) (h3'.set n (hv1.mono (Same.pers s2))) m)⟩⟩
/-- x += e, ints -/
def dAddI : D → D → R D
  | .int i, .int j => .ok (.int (i + j))
  | _, _ => .bad
theorem ds_aug (i : Nat) (hk : kd κ i = .imm) (hN : X.N.Nodup) (hi : X.N[i]? = some x) (hx : Loc X.env.scope x) (he : DE X H0 W κ rI e f) (hkl : i < κ.length := by decide) (hf : X.fn x = true ∨ X.env.scope.names.lookup x = some .local := by first | exact .inl rfl | exact .inr rfl | assumption) :
    DS X H0 W ρr κ (.AugAssign (.Name x pos') .Add e pos) (sSet i (f2 dAddI (fVar i) f)) (κ.set i .imm) :=
  ⟨(ps_aug hN hi hx he.pe ip_add hf).cons fun D σ H ⟨τ, r, q⟩ => by
    obtain ⟨d, e1, q1⟩ := post_var (PostA.bind (PostA.bind q))
    obtain ⟨v, h1, h2⟩ := r.imm i d e1 hk
    refine ⟨v, h1, τ, r, PostA.imp (PostA.to (PostA.bind q1) r.same) fun d2 qd w H1 s1 hw => ?_⟩
    cases d <;> cases d2 <;> try exact qd.elim
    rename_i a b
    cases h2
    cases hw
    exact ⟨a, b, rfl, rfl, qd _ H1 (Same.pers s1) ((r.to s1).setI hkl (.int _))⟩⟩

/-! ### raise -/
theorem pmk_own0 {C : Addr} {bmB : List Value} {B newId initId : String} {p : Pos} (F : ExcBaseFacts B newId initId bmB) (q : PySem.W.excIn X.K C bmB newId = true) (gC : X.mg x = some (.ref C)) (kC : PySem.W.keepIn X.K (.ref C) = true) (r : Raises X (.ref C)) (hg : Gl X x)
    (hdb : (x == ("__debug__" : Str)) = false := by decide) : PMk X (.Call (.Name x p) [] [] pos) (fun _ H Q => Q (.ref C) none H) := by
  intro pins s σ H Q I h
  refine wpAny_Call_Name_kw (ld_glob I hg gC (PySem.W.callWith_K0 I.kIn kC ?_) hdb)
  obtain ⟨bm, N, nm, qn, bs, hdct, sn, sub, ab, col, dd, k0, k1, k2, k3, k5, mN, hC, hN, hni, T⟩ := exc_obj I.kIn q
  show wpAny _ _ (call (.ref C) []) _ _ _
  refine wpAny_call_exc_subT F T hC hN hni (fun h' e hm => ?_) (by show 0 ≤ sizeLine; exact Nat.zero_le _)
  exact mk_of I hm r h (I.hok.gone hm.new)
def sRaise (n : Str) : Env → R Out := fun _ => .err n
/-- raise X() -/
theorem ds_raise {C : Addr} {bmB : List Value} {B newId initId : String} {p : Pos} (F : ExcBaseFacts B newId initId bmB) (q : PySem.W.excIn X.K C bmB newId = true) (gC : X.mg x = some (.ref C)) (kC : PySem.W.keepIn X.K (.ref C) = true) (r : Raises X (.ref C)) (hg : Gl X x) (hc : X.calm = true) (tk : Takes X (fun cls d _ H => W cls d H))
    (hdb : (x == ("__debug__" : Str)) = false := by decide) : DS X H0 W ρr κ (.Raise (some (.Call (.Name x p) [] [] pos)) none pos') (sRaise x) κ1 :=
  ⟨(ps_raise hc tk (pmk_own0 F q gC kC r hg hdb)).cons fun D σ H ⟨τ, rr, z⟩ => z C H gC rr.same⟩

/-! ### an own list is kept as it is from here on -/
def sKeep (i : Nat) : Env → R Out := fun τ => match τ[i]? with | some (some (.list _)) => .ok (.nx τ) | some none => .ok (.nx τ) | _ => .bad
theorem Rep.keepL {K : PySem.W.Frag} {H : Hp} {σ : L2.St} {τ : Env} {a : Addr} {xs : List V} {ds : List D} {o : Obj} (r : Rep K H0 H κ σ τ) (hk : kd κ i = .own) (hl : i < κ.length) (e : τ[i]? = some (some (.list ds))) (hs : σ[i]? = some (some (.ref a))) (h : H a = some (.lst xs)) (hi : ImAll K H xs ds) (hz : ds.length ≤ sizeLine) (n0 : H0 a = none) :
    Rep K H0 (upd H a (.frz o (.lst xs))) (κ.set i .imm) σ τ := by
  have p : Pers H (upd H a (.frz o (.lst xs))) := pers_upd (by rw [h]; trivial)
  refine ⟨r.len, fun j d e2 k => ?_, fun j d e2 k => ?_, fun j d e2 k => ?_, fun j l d e' b hjl e1 e2 k1 k2 s1 s2 => ?_, fun c oc hc => ?_⟩
  · rw [kd_set hl] at k
    by_cases hj : i = j
    · subst hj
      rw [e] at e2; cases e2
      exact ⟨.ref a, hs, .lst ⟨o, upd_same⟩ hz (hi.mono p)⟩
    · rw [if_neg hj] at k
      obtain ⟨v, v1, v2⟩ := r.imm j d e2 k
      exact ⟨v, v1, v2.mono p⟩
  · rw [kd_set hl] at k
    by_cases hj : i = j
    · rw [if_pos hj] at k; cases k
    · rw [if_neg hj] at k
      obtain ⟨v, v1, v2⟩ := r.dct j d e2 k
      exact ⟨v, v1, v2.mono p⟩
  · rw [kd_set hl] at k
    by_cases hj : i = j
    · rw [if_pos hj] at k; cases k
    · rw [if_neg hj] at k
      obtain ⟨v, v1, v2, v3⟩ := r.own j d e2 k
      have hva : v ≠ a := fun z => by subst z; exact r.sep j i d _ v (Ne.symm hj) e2 e k hk v1 hs
      exact ⟨v, v1, v2, v3.keep p (upd_ne hva)⟩
  · rw [kd_set hl] at k1 k2
    by_cases hj : i = j
    · rw [if_pos hj] at k1; cases k1
    · by_cases hl2 : i = l
      · rw [if_pos hl2] at k2; cases k2
      · rw [if_neg hj] at k1; rw [if_neg hl2] at k2
        exact r.sep j l d e' b hjl e1 e2 k1 k2 s1 s2
  · have hca : c ≠ a := fun z => by subst z; rw [n0] at hc; cases hc
    rw [upd_ne hca]; exact r.same c oc hc
theorem Rep.kindN {K : PySem.W.Frag} {H : Hp} {σ : L2.St} {τ : Env} (r : Rep K H0 H κ σ τ) (k : Kd) (e : τ[i]? = some none) : Rep K H0 H (κ.set i k) σ τ := by
  have q := r.forget i k
  have e2 : τ.set i none = τ := by
    apply List.ext_getElem?
    intro j
    by_cases hj : i = j
    · subst hj
      have hl := (List.getElem?_eq_some_iff.mp e).1
      rw [List.getElem?_set_self hl, e]
    · rw [List.getElem?_set_ne hj]
  rw [e2] at q
  exact q
theorem dss_keep (i : Nat) (hk : kd κ i = .own) (hl : i < κ.length := by decide) (h : DSs X H0 W ρr (κ.set i .imm) sts g κ1) : DSs X H0 W ρr κ sts (sSeq (sKeep i) g) κ1 :=
  ⟨⟨fun pins s σ H D I ⟨τ, r, q⟩ => by
    have q1 := PostA.bind q
    unfold sKeep at q1
    split at q1
    · rename_i ds e
      obtain ⟨a, h1, h2, h3⟩ := r.own i _ e hk
      cases h3 with
      | @lst xs _ h3 z hi =>
        obtain ⟨o, I2⟩ := I.lock h3 trivial
        have p : Pers H (upd H a (.frz o (.lst xs))) := pers_upd (by rw [h3]; trivial)
        exact h.pss.run pins s σ _ D I2 ⟨τ, r.keepL hk hl e h1 h3 hi z h2, PostA.imp q1 fun o qo => PostO.pers qo p⟩
    · rename_i e
      exact h.pss.run pins s σ H D I ⟨τ, r.kindN .imm e, q1⟩
    · exact q1.elim⟩⟩
end

/-! ### what a def is -/
def startE (n : Nat) (ds : List D) : Env := ds.map some ++ List.replicate (n - ds.length) none
/-- what a def comes to, by its body -/
def fnOut (n : Nat) (g : Env → R Out) : List D → R D := fun ds => (g (startE n ds)).bind fun o => match o with | .nx _ => .ok .none | .rt d => .ok d
theorem args_get {K : PySem.W.Frag} {H : Hp} : ∀ {ks : List Kd} {vs : List V} {ds : List D}, Args K H ks vs ds → ∀ (i : Nat) (d : D), ds[i]? = some d → ∃ v, vs[i]? = some v ∧ ((kd ks i = .imm ∧ Im K H v d) ∨ (kd ks i = .dct ∧ Fd K H v d))
  | _, _, _, .nil, _, _, e => by simp at e
  | _, _, _, .imm h _, 0, _, e => by simp at e; subst e; exact ⟨_, rfl, .inl ⟨rfl, h⟩⟩
  | _, _, _, .dct h _, 0, _, e => by simp at e; subst e; exact ⟨_, rfl, .inr ⟨rfl, h⟩⟩
  | _, _, _, .imm _ a, i + 1, d, e => by
    obtain ⟨v, h1, h2⟩ := args_get a i d (by simpa using e)
    exact ⟨v, by simpa using h1, by simpa [kd] using h2⟩
  | _, _, _, .dct _ a, i + 1, d, e => by
    obtain ⟨v, h1, h2⟩ := args_get a i d (by simpa using e)
    exact ⟨v, by simpa using h1, by simpa [kd] using h2⟩
theorem rep_start {K : PySem.W.Frag} {H : Hp} {ks : List Kd} {vs : List V} {ds : List D} {N : List Str} (h : Args K H ks vs ds) (m : Nat) (hm : ks.length + m = N.length) : Rep K H H (ks ++ List.replicate m .imm) (start N vs) (startE N.length ds) := by
  obtain ⟨l1, l2⟩ := h.len
  have at_ : ∀ i d, (startE N.length ds)[i]? = some (some d) → ds[i]? = some d ∧ i < ds.length := fun i d e => by
    unfold startE at e
    by_cases hi : i < ds.length
    · rw [List.getElem?_append_left (by simpa using hi), List.getElem?_map] at e
      cases q : ds[i]? with
      | none => rw [q] at e; cases e
      | some d' => rw [q] at e; cases e; exact ⟨rfl, hi⟩
    · rw [List.getElem?_append_right (by simpa using Nat.le_of_not_lt hi)] at e
      have := List.mem_of_getElem? e
      simp at this
  have vat : ∀ i v, vs[i]? = some v → (start N vs)[i]? = some (some v) := fun i v e => by
    unfold L2.start
    have hi := (List.getElem?_eq_some_iff.mp e).1
    rw [List.getElem?_append_left (by simpa using hi), List.getElem?_map, e]; rfl
  have kat : ∀ i, i < ds.length → kd (ks ++ List.replicate m .imm) i = kd ks i := fun i hi => by
    unfold kd
    simp only [List.getD_eq_getElem?_getD]
    rw [List.getElem?_append_left (by omega)]
  refine ⟨by unfold L2.start startE; simp [l1, l2], fun i d e k => ?_, fun i d e k => ?_, fun i d e k => ?_, fun i j d e' a _ e1 e2 k1 k2 => ?_, Same.refl H⟩
  · obtain ⟨e1, hi⟩ := at_ i d e
    obtain ⟨v, h1, h2⟩ := args_get h i d e1
    rw [kat i hi] at k
    rcases h2 with ⟨_, h2⟩ | ⟨k2, _⟩
    · exact ⟨v, vat i v h1, h2⟩
    · rw [k] at k2; cases k2
  · obtain ⟨e1, hi⟩ := at_ i d e
    obtain ⟨v, h1, h2⟩ := args_get h i d e1
    rw [kat i hi] at k
    rcases h2 with ⟨k2, _⟩ | ⟨_, h2⟩
    · rw [k] at k2; cases k2
    · exact ⟨v, vat i v h1, h2⟩
  · obtain ⟨e1, hi⟩ := at_ i d e
    obtain ⟨v, h1, h2⟩ := args_get h i d e1
    rw [kat i hi] at k
    rcases h2 with ⟨k2, _⟩ | ⟨k2, _⟩ <;> rw [k] at k2 <;> cases k2
  · obtain ⟨q1, hi⟩ := at_ i d e1
    obtain ⟨v, h1, h2⟩ := args_get h i d q1
    rw [kat i hi] at k1
    rcases h2 with ⟨k3, _⟩ | ⟨k3, _⟩ <;> rw [k1] at k3 <;> cases k3
/-- a def's promise from its body's walk -/
theorem fn_ok {P : Program} {w : World} {K : PySem.W.Frag} {mg : Str → Option Value} {base : Heap} {x qual : Str} {st : Stmt} {f : Addr} {fd : FuncData} {N ps : List Str} {k m : Nat} {ks : List Kd} {ρ : Res} {g : Env → R Out} (F : Fun K x qual st f fd) (S : FnScope N ps (defScope st))
    (hps : ks.length = ps.length) (hm : ks.length + m = N.length) (hρ : ρ.Good) (hnone : Res.Le rI ρ ∨ ∀ ds, ∀ τ, g (startE N.length ds) ≠ .ok (.nx τ))
    (body : ∀ (cdv : Value) (A : Around) (outer : List PySem.Env) (s : Shared) (H : Hp) (E : XK), Room k (A.deeper (envOfC qual (defScope st) s.heap.objs.size f cdv)) →
      ∃ κ1, DSs (cxOf (L2.CX P w) P w K mg base N qual (defScope st) f cdv A outer s H E) H E ρ (ks ++ List.replicate m .imm) (defBody st) g κ1) :
    FnOk P w K mg base (L2.CX P w) (k + 1) f fd ps (spF mg K ks ρ (fnOut N.length g)) := by
  refine F.okX S (fun vs H Q E h => (spF_len vs H Q E h).trans hps) fun cdv A outer s H vs Q E hr ⟨ds, ha, q⟩ => ?_
  obtain ⟨κ1, b⟩ := body cdv A outer s H E hr
  refine ⟨_, b.pss, startE N.length ds, rep_start ha m hm, PostA.imp' (PostA.bind q) fun o eo qo => ?_⟩
  cases o with
  | nx τ =>
    rcases hnone with l | h
    · intro σ' H' p r
      have qo' : ∀ v H', Same H H' → ρ K H H' v .none → Q v H' := qo
      exact qo' .non H' r.same (l.le _ _ _ _ _ .non)
    · exact absurd eo (h ds τ)
  | rt d => exact qo
end PL
set_option Elab.async false
set_option linter.all false
set_option maxRecDepth 100000
set_option maxHeartbeats 1000000
/-! PL12: what a body's walk is given; short rules. -/
namespace PL
open PySem PySem.Spec PyProof.Rows L2

/-- a def of the text stands where its name says -/
structure DefIn (K : PySem.W.Frag) (mg : Str → Option Value) (nm : Str) (st : Stmt) (ps : List Str) : Prop where
  ex : ∃ (fA : Addr) (fd : FuncData), Fun K nm nm st fA fd ∧ mg nm = some (.ref fA) ∧ Binds K fd ps []
/-- a def may be called: it comes to what g says -/
structure Cal (P : Program) (w : World) (K : PySem.W.Frag) (mg : Str → Option Value) (base : Heap) (nm : Str) (k : Nat) (ks : List Kd) (ρ : Res) (g : List D → R D) : Prop where
  ex : ∃ (fA : Addr) (fd : FuncData) (ps : List Str), FnOk P w K mg base (L2.CX P w) k fA fd ps (spF mg K ks ρ g) ∧ mg nm = some (.ref fA) ∧ PySem.W.keepIn K (.ref fA) = true ∧ Binds K fd ps []
theorem DefIn.cal {P : Program} {w : World} {K : PySem.W.Frag} {mg : Str → Option Value} {base : Heap} {nm : Str} {st : Stmt} {ps N : List Str} {k m : Nat} {ks : List Kd} {ρ : Res} {g : PL.Env → R Out} (d : DefIn K mg nm st ps) (S : FnScope N ps (defScope st))
    (hps : ks.length = ps.length) (hm : ks.length + m = N.length) (hρ : ρ.Good) (hnone : Res.Le rI ρ ∨ ∀ ds, ∀ τ, g (startE N.length ds) ≠ .ok (.nx τ))
    (body : ∀ (f : Addr) (cdv : Value) (A : Around) (outer : List PySem.Env) (s : Shared) (H : Hp) (E : XK), Room k (A.deeper (envOfC nm (defScope st) s.heap.objs.size f cdv)) →
      ∃ κ1, DSs (cxOf (L2.CX P w) P w K mg base N nm (defScope st) f cdv A outer s H E) H E ρ (ks ++ List.replicate m .imm) (defBody st) g κ1) :
    Cal P w K mg base nm (k + 1) ks ρ (fnOut N.length g) := by
  obtain ⟨fA, fd, F, G, B⟩ := d.ex
  exact ⟨fA, fd, ps, fn_ok F S hps hm hρ hnone (fun cdv A outer s H E hr => body fA cdv A outer s H E hr), G, F.kp, B⟩
theorem Cal.mono {P : Program} {w : World} {K : PySem.W.Frag} {mg : Str → Option Value} {base : Heap} {nm : Str} {k k' : Nat} {ks : List Kd} {ρ : Res} {g : List D → R D} (c : Cal P w K mg base nm k ks ρ g) (h : k ≤ k') : Cal P w K mg base nm k' ks ρ g := by
  obtain ⟨fA, fd, ps, F, r⟩ := c.ex
  exact ⟨fA, fd, ps, F.mono h, r⟩
/-- a def whose body never comes to its end hands back by return alone: told by its last statement -/
theorem le_II : Res.Le rI rI := le_rfl
/-- the built-in names that the text leaves alone -/
structure Blt (mg : Str → Option Value) : Prop where
  len : mg "len" = none
  isi : mg "isinstance" = none
  tuple : mg "tuple" = none
  list : mg "list" = none
  dict : mg "dict" = none
  set : mg "set" = none
  str : mg "str" = none
  int : mg "int" = none
  bool : mg "bool" = none
  all : mg "all" = none
  any : mg "any" = none
  sum : mg "sum" = none
  max : mg "max" = none
  min : mg "min" = none
  sorted : mg "sorted" = none
  range : mg "range" = none
  zip : mg "zip" = none
  enumerate : mg "enumerate" = none
theorem _root_.L2.Room.u65 {k : Nat} {A : Around} (r : Room k A) : A.units + 65 < cLine := by have := r.un; omega
section
variable {X : Cx} {H0 : Hp} {W : XK} {κ κ1 : Kds} {ρ ρa ρr : Res} {e a b c : Expr} {es : List Expr} {f fa fb fc : PL.Env → R D} {fs : PL.Env → R (List D)} {ks : List Kd} {pos p p2 : Pos} {g : List D → R D} {x : Str} {k kc : Nat}
theorem de_fn (C : Cal X.prog X.w X.K X.mg X.base x kc ks ρ g) (hρ : ρ.Good) (hr : Room k X.A) (hg : Gl X x) (hx : Passes (L2.CX X.prog X.w) X W) (ha : DG X H0 W κ (e :: es) ks fs) (hk : kc ≤ k := by decide)
    (hdb : (x == ("__debug__" : Str)) = false := by decide) (he : starEach (e :: es) X.env = (false, eval e X.env) :: starEach es X.env := by rfl) (hpl : (backTo pos (starEach es X.env)).any (·.1) = false := by rfl) :
    DE X H0 W κ ρ (.Call (.Name x p) (e :: es) [] pos) (fCall g fs) := by
  obtain ⟨fA, fd, ps, F, G, kp, B⟩ := C.ex
  exact de_call F hρ (hr.mono hk) hg G kp B hx ha hdb he hpl
theorem de_fn0 (C : Cal X.prog X.w X.K X.mg X.base x kc [] ρ g) (hr : Room k X.A) (hg : Gl X x) (hx : Passes (L2.CX X.prog X.w) X W) (hk : kc ≤ k := by decide) (hdb : (x == ("__debug__" : Str)) = false := by decide) : DE X H0 W κ ρ (.Call (.Name x p) [] [] pos) (fCall g fNil) := by
  obtain ⟨fA, fd, ps, F, G, kp, B⟩ := C.ex
  exact de_call0 F (hr.mono hk) hg G kp B hx hdb
/-- a name that holds an own list or dict, or data -/
theorem de_varE (i : Nat) {x : Str} (hk : kd κ i = .own ∨ kd κ i = .imm := by first | exact Or.inl rfl | exact Or.inr rfl) (hN : X.N[i]? = some x := by rfl) (hv : Vis X.env.scope x := by first | exact Or.inl rfl | exact Or.inr (Or.inl rfl) | exact Or.inr (Or.inr rfl))
    (hd : (x == ("__debug__" : Str)) = false := by decide) (hcd : (x == ("__classdict__" : Str)) = false := by decide) : DE X H0 W κ rE (.Name x pos) (fVar i) :=
  ⟨(pe_var hN hv hd hcd).cons fun σ H Q ⟨τ, r, q⟩ => by
    obtain ⟨d, e, k⟩ := post_var q
    rcases hk with hk | hk
    · obtain ⟨a, h1, _, h2⟩ := r.own i d e hk
      exact ⟨_, h1, k _ H (Same.refl H) (.inr ⟨a, rfl, h2⟩)⟩
    · obtain ⟨v, h1, h2⟩ := r.imm i d e hk
      exact ⟨v, h1, k v H (Same.refl H) (.inl h2)⟩⟩
/-- -e -/
def dNeg : D → R D
  | .int i => .ok (.int (-i))
  | _ => .bad
theorem de_neg (ha : DE X H0 W κ rI a fa) : DE X H0 W κ rI (.UnaryOp .USub a pos) (f1 dNeg fa) :=
  ⟨(pe_un un_neg ha.pe).cons fun σ H Q ⟨τ, r, q⟩ => ⟨τ, r, PostA.imp (PostA.bind q) fun d pd v H1 s1 hv => by
    cases d <;> try exact pd.elim
    cases hv
    exact ⟨_, rfl, pd _ H1 s1 (.int _)⟩⟩⟩
/-- lo <= a <= hi -/
def f3 (g1 g2 : D → D → R D) (fa fb fc : PL.Env → R D) : PL.Env → R D := fun τ => (fa τ).bind fun a => (fb τ).bind fun b => (g1 a b).bind fun k => match k with | .bool true => (fc τ).bind fun c => g2 b c | .bool false => .ok (.bool false) | _ => .bad
theorem de_chain {op op' : CmpOp} {g1 g2 : D → D → R D} (h1 : DOp X W (compareOp op) g1 rE rE rI) (h2 : DOp X W (compareOp op') g2 rE rE rI) (ha : DE X H0 W κ rE a fa) (hb : DE X H0 W κ rE b fb) (hc : DE X H0 W κ rE c fc)
    (hm : lastMarks [op, op'] [b, c] = false := by with_unfolding_all rfl) : DE X H0 W κ rI (.Compare a [op, op'] [b, c] pos) (f3 g1 g2 fa fb fc) :=
  ⟨(pe_chain h1.opR h2.opR ha.pe hb.pe hc.pe hm).cons fun σ H Q ⟨τ, r, q⟩ => ⟨τ, r, PostA.imp (PostA.bind q) fun da qa x H1 s1 ia => ⟨τ, r.to s1, PostA.imp (PostA.bind (PostA.to qa s1)) fun db qb y H2 s2 ib =>
    ⟨da, db, stay_E.to _ _ _ _ _ _ _ s2 ia, ib, PostA.imp (PostA.bind (PostA.to qb s2)) fun dk qk z H3 s3 ik => by
      cases dk <;> try exact qk.elim
      rename_i kk
      cases ik
      refine ⟨kk, rfl, ?_⟩
      cases kk with
      | true =>
        rw [if_pos rfl]
        exact ⟨τ, ((r.to s1).to s2).to s3, PostA.imp (PostA.bind (PostA.to qk s3)) fun dc qc w H4 s4 ic => ⟨db, dc, stay_E.to _ _ _ _ _ _ _ (s3.trans s4) ib, ic, PostA.imp (PostA.to qc s4) fun d qd v H5 s5 hv => qd v H5 ((((s1.trans s2).trans s3).trans s4).trans s5) hv⟩⟩
      | false =>
        rw [if_neg (by decide)]
        exact qk _ H3 ((s1.trans s2).trans s3) (.bl _)⟩⟩⟩⟩
theorem dt_chain {op op' : CmpOp} {g1 g2 : D → D → R D} (h1 : DOp X W (compareOp op) g1 rE rE rI) (h2 : DOp X W (compareOp op') g2 rE rE rI) (b2 : ∀ a b d, g2 a b = .ok d → ∃ k, d = .bool k) (ha : DE X H0 W κ rE a fa) (hb : DE X H0 W κ rE b fb) (hc : DE X H0 W κ rE c fc)
    (hm : lastMarks [op, op'] [b, c] = false := by with_unfolding_all rfl) : DT X H0 W κ (.Compare a [op, op'] [b, c] pos) (fTru (f3 g1 g2 fa fb fc)) :=
  ⟨(pt_chain h1.opR h2.opR ha.pe hb.pe hc.pe hm).cons fun σ H Q ⟨τ, r, q⟩ => by
    have hD : tD X.K X.mg H0 W κ rI (f3 g1 g2 fa fb fc) σ H (fun x H' => ∃ k, x = .bl k ∧ Q k H') := ⟨τ, r, PostA.imp' (PostA.bind q) fun d ed pd v H' s hv => by
      have : ∃ k, d = .bool k := by
        unfold f3 at ed
        obtain ⟨a1, _, ed⟩ := bind_ok' ed
        obtain ⟨a2, _, ed⟩ := bind_ok' ed
        obtain ⟨a3, _, ed⟩ := bind_ok' ed
        cases a3 with
        | bool kk =>
          cases kk with
          | false => cases ed; exact ⟨_, rfl⟩
          | true => obtain ⟨a4, _, ed⟩ := bind_ok' ed; exact b2 _ _ _ ed
        | _ => cases ed
      obtain ⟨kk, rfl⟩ := this
      cases hv
      exact ⟨kk, rfl, pd H' s⟩⟩
    obtain ⟨τ, r, q⟩ := hD
    refine ⟨τ, r, PostA.imp (PostA.bind q) fun da qa x H1 s1 ia => ⟨τ, r.to s1, PostA.imp (PostA.bind (PostA.to qa s1)) fun db qb y H2 s2 ib =>
      ⟨da, db, stay_E.to _ _ _ _ _ _ _ s2 ia, ib, PostA.imp (PostA.bind (PostA.to qb s2)) fun dk qk z H3 s3 ik => ?_⟩⟩⟩
    cases dk <;> try exact qk.elim
    rename_i kk
    cases ik
    refine ⟨kk, rfl, ?_⟩
    cases kk with
    | true =>
      rw [if_pos rfl]
      exact ⟨τ, ((r.to s1).to s2).to s3, PostA.imp (PostA.bind (PostA.to qk s3)) fun dc qc w H4 s4 ic => ⟨db, dc, stay_E.to _ _ _ _ _ _ _ (s3.trans s4) ib, ic, PostA.imp (PostA.to qc s4) fun d qd v H5 s5 hv => qd v H5 ((((s1.trans s2).trans s3).trans s4).trans s5) hv⟩⟩
    | false =>
      rw [if_neg (by decide)]
      exact qk _ H3 ((s1.trans s2).trans s3) (.bl _)⟩
end
end PL
namespace PL
open PySem PySem.Spec PyProof.Rows L2
/-- a body that never comes to its end -/
def NoNx (g : PL.Env → R Out) : Prop := ∀ τ τ', g τ ≠ .ok (.nx τ')
theorem nn_ret {f : PL.Env → R D} : NoNx (sRet f) := fun τ τ' h => by
  obtain ⟨d, _, h⟩ := bind_ok' h
  cases h
theorem nn_retL {i : Nat} : NoNx (sRetL i) := fun τ τ' h => by unfold sRetL at h; split at h <;> cases h
theorem nn_retM {i : Nat} : NoNx (sRetM i) := fun τ τ' h => by unfold sRetM at h; split at h <;> cases h
theorem nn_raise {n : Str} : NoNx (sRaise n) := fun τ τ' h => by cases h
theorem nn_seq {g1 g2 : PL.Env → R Out} (h : NoNx g2) : NoNx (sSeq g1 g2) := fun τ τ' e => by
  obtain ⟨o, _, e⟩ := bind_ok' e
  cases o with
  | nx τ2 => exact h τ2 τ' e
  | rt d => cases e
theorem nn_seq1 {g1 g2 : PL.Env → R Out} (h : NoNx g1) : NoNx (sSeq g1 g2) := fun τ τ' e => by
  obtain ⟨o, e1, e⟩ := bind_ok' e
  cases o with
  | nx τ2 => exact h τ τ2 e1
  | rt d => cases e
theorem nn_if {c : PL.Env → R Bool} {g1 g2 : PL.Env → R Out} (h1 : NoNx g1) (h2 : NoNx g2) : NoNx (sIf c g1 g2) := fun τ τ' e => by
  obtain ⟨k, _, e⟩ := bind_ok' e
  cases k with
  | true => rw [if_pos rfl] at e; exact h1 τ τ' e
  | false => rw [if_neg (by decide)] at e; exact h2 τ τ' e
theorem nn_start {g : PL.Env → R Out} {n : Nat} (h : NoNx g) : ∀ (ds : List D) τ, g (startE n ds) ≠ .ok (.nx τ) := fun ds τ => h _ τ
end PL
set_option Elab.async false
set_option linter.all false
set_option maxRecDepth 100000
set_option maxHeartbeats 1000000
/-! PS1: sets of tuples of ints and texts (the walk through the table is the one that HandS.TupSets shows for ints). -/
namespace PL
open PySem PySem.Spec PyProof.Rows L2

/-- the hash of such a tuple -/
abbrev hsh (P : Program) (w : World) (k : List Key) : Int := tupleKeyHash (mixKind P w) k
abbrev IsM (P : Program) (w : World) (h : Heap) (k : List Key) (a : Addr) : Prop := IsTupleKey (mixKind P w) h k a
/-- an int or a text -/
def MixV (v : Value) : Prop := (∃ i t, v = Value.int i t) ∨ ∃ x t, v = Value.str x t
section
variable {P : Program} {w : World} {A : Around} {E : Value → Shared → Prop} {s : Shared}
theorem mix_of {k : Key} {v : Value} (h : (mixKind P w).is k v = true) : MixV v := by
  cases v <;> cases k <;> first
    | exact .inl ⟨_, _, rfl⟩
    | exact .inr ⟨_, _, rfl⟩
    | cases h
theorem items_mix {k : List Key} {vs : List Value} (h : ItemsAre (mixKind P w) k vs) : ∀ v ∈ vs, MixV v := by
  induction h with
  | nil => exact fun v hv => absurd hv List.not_mem_nil
  | cons h1 _ ih => exact fun v hv => (List.mem_cons.mp hv).elim (fun e => e ▸ mix_of h1) (ih v)
theorem noClass_mix (n : Nat) {v : Value} (h : MixV v) : ofAClassStatement n v = pure false := by
  rcases h with ⟨i, t, rfl⟩ | ⟨x, t, rfl⟩ <;> cases n <;> rfl
/-- whether it hashes by its value -/
def byV : Value → Bool
  | .int _ _ => true
  | _ => false
theorem byVal_mix (n : Nat) {v : Value} (h : MixV v) : hashByValue n v = pure (byV v) := by
  rcases h with ⟨i, t, rfl⟩ | ⟨x, t, rfl⟩ <;> cases n <;> first | rfl | (simp [hashByValue, byV])
/-- the loop of both questions: each item answers r, which lets it go on -/
theorem loop_mix {items : Array Value} {r : Bool} {f : Value → Sem Bool} {k : Value → Bool → Sem (ForInStep (Option Bool × PUnit))} (hv : ∀ v ∈ items.toList, MixV v) (hf : ∀ v, MixV v → f v = pure r) (hk : ∀ v, k v r = pure (.yield (none, ⟨⟩)))
    {Q : Option Bool × PUnit → Shared → Prop} (h : Q (none, ⟨⟩) s) : wpAny (model P w) A (forIn items (none, ⟨⟩) fun v _ => f v >>= k v) Q E s := by
  rw [← Array.forIn_toList]
  refine wpAny_forIn_list _ (fun rest st s' => st = (none, ⟨⟩) ∧ s' = s ∧ ∀ v ∈ rest, MixV v) _ (fun v rest st s' z => ?_) (fun st s' z => ?_) _ _ ⟨rfl, rfl, hv⟩
  · obtain ⟨rfl, rfl, hall⟩ := z
    rw [hf v (hall v List.mem_cons_self)]
    refine wpAny_bind (wpAny_pure ?_)
    rw [hk v]
    exact wpAny_pure ⟨rfl, rfl, fun u hu => hall u (List.mem_cons_of_mem _ hu)⟩
  · obtain ⟨rfl, rfl, _⟩ := z
    exact h
theorem noClass_tup {k : List Key} {b : Addr} {Q : Bool → Shared → Prop} (hk : IsM P w s.heap k b) (h : Q false s) : wpAny (model P w) A (ofAClassStatement 8 (.ref b)) Q E s := by
  have ty := hk.typeIs
  obtain ⟨ob, its, m, e1, _, e2, e3⟩ := hk
  unfold ofAClassStatement
  refine wpAny_bind (wpAny_typeOf ty ?_)
  dsimp only
  simp only [show (("tuple" : String) == "tuple") = true by decide, if_true, Bool.not_true, Bool.false_eq_true, if_false]
  try refine wpAny_bind (wpAny_pure ?_)
  try simp only [Bool.not_true, Bool.false_eq_true, if_false]
  show wpAny _ _ (seqItems? (.ref b) >>= fun q => _) _ _ s
  refine wpAny_bind (wpAny_seqItems e1 e2 ?_)
  dsimp only
  refine wpAny_bind (loop_mix (items_mix e3) (fun v hv => noClass_mix _ hv) (fun v => ?_) ?_)
  · simp only [Bool.false_eq_true, if_false]
  · exact wpAny_pure h
theorem byVal_tup {k : List Key} {b : Addr} {Q : Bool → Shared → Prop} (hk : IsM P w s.heap k b) (h : ∀ r, Q r s) : wpAny (model P w) A (hashByValue 8 (.ref b)) Q E s := by
  have ty := hk.typeIs
  obtain ⟨ob, its, m, e1, _, e2, e3⟩ := hk
  unfold hashByValue
  refine wpAny_bind (wpAny_specialOf ty F.slot_tuple_hash.lookup ?_)
  show wpAny _ _ (seqItems? (.ref b) >>= fun q => _) _ _ s
  refine wpAny_bind (wpAny_seqItems e1 e2 ?_)
  refine wpAny_bind ?_
  show wpAny _ _ (forIn its _ _) _ _ s
  rw [← Array.forIn_toList]
  refine wpAny_forIn_list _ (fun rest st s' => st.1 = none ∧ s' = s ∧ ∀ v ∈ rest, MixV v) _ (fun v rest st s' z => ?_) (fun st s' z => ?_) _ _ ⟨rfl, rfl, items_mix e3⟩
  · obtain ⟨_, rfl, all⟩ := z
    rw [byVal_mix _ (all v List.mem_cons_self)]
    refine wpAny_bind (wpAny_pure ?_)
    cases byV v with
    | true =>
      simp only [Bool.not_true, Bool.false_eq_true, if_false]
      exact wpAny_pure ⟨rfl, rfl, fun u hu => all u (List.mem_cons_of_mem _ hu)⟩
    | false =>
      simp only [Bool.not_false, if_true]
      exact wpAny_pure (wpAny_pure (h false))
  · obtain ⟨st1, st2⟩ := st
    obtain ⟨rfl, rfl, _⟩ : st1 = none ∧ s' = s ∧ True := ⟨z.1, z.2.1, trivial⟩
    exact wpAny_pure (h true)
/-- looking among tuples shows nothing of the table -/
theorem shown_tup {k : List Key} {b : Addr} {Q : Bool → Shared → Prop} (hk : IsM P w s.heap k b) {ys : List Value} (hy : ∀ y ∈ ys, ∃ k' c, y = Value.ref c ∧ IsM P w s.heap k' c) (h : Q false s) :
    wpAny (model P w) A (searchCouldBeSeen (.ref b) ys) Q E s := by
  unfold searchCouldBeSeen
  refine wpAny_bind (wpAny_forIn_list _ (fun rest st s' => st.1 = none ∧ s' = s ∧ ∀ y ∈ rest, ∃ k' c, y = Value.ref c ∧ IsM P w s.heap k' c) _ (fun v rest st s' z => ?_) (fun st s' z => ?_) _ _ ⟨rfl, rfl, hy⟩)
  · obtain ⟨_, rfl, all⟩ := z
    obtain ⟨k', c, rfl, hc⟩ := all v List.mem_cons_self
    have more : ∀ y ∈ rest, ∃ k' c, y = Value.ref c ∧ IsM P w s'.heap k' c := fun u hu => all u (List.mem_cons_of_mem _ hu)
    dsimp only
    by_cases same : (b == c || (carriedByValue (.ref b) && carriedByValue (.ref c))) = true
    · exact wp_if_pos same (wpAny_pure ⟨rfl, rfl, more⟩)
    · refine wp_if_neg same (wpAny_bind (wpAny_eqIsQuiet_tuple hk ?_))
      simp only [Bool.not_true, Bool.false_eq_true, if_false]
      refine wpAny_bind (wpAny_eqIsQuiet_tuple hc ?_)
      simp only [Bool.not_true, Bool.false_eq_true, if_false]
      refine wpAny_bind (noClass_tup hk ?_)
      simp only [Bool.false_eq_true, if_false]
      refine wpAny_bind (noClass_tup hc ?_)
      simp only [Bool.false_eq_true, if_false]
      exact wpAny_pure ⟨rfl, rfl, more⟩
  · obtain ⟨st1, st2⟩ := st
    obtain ⟨rfl, rfl, _⟩ : st1 = none ∧ s' = s ∧ True := ⟨z.1, z.2.1, trivial⟩
    exact wpAny_pure h

/-! ### the set of tuples -/
def rwsM (P : Program) (w : World) (L : List (Addr × List Key)) : List (Int × Value) := L.map fun p => (hsh P w p.2, Value.ref p.1)
structure StM (P : Program) (w : World) (h : Heap) (a : Addr) (L : List (Addr × List Key)) (es : Array (Int × Value)) (ep : Nat) (t : SetTable) : Prop where
  ob : ∃ o, h.get? a = some o ∧ o.ExactSet ∧ o.data = .set es ep t
  rows : es.toList = rwsM P w L
  tab : TabOk t (L.map fun p => hsh P w p.2)
  nd : (L.map (·.2)).Nodup
  tup : ∀ p ∈ L, IsM P w h p.2 p.1
  led : w.params.followText "set-order" = true ∨ t.led = true
  room : L.length * 5 < t.mask * 3
  few : L.length < 64
variable {a : Addr} {L : List (Addr × List Key)} {es : Array (Int × Value)} {ep : Nat} {t : SetTable}
theorem StM.size {h : Heap} (R : StM P w h a L es ep t) : es.size = L.length := by
  have h := congrArg List.length R.rows
  unfold rwsM at h
  rw [Array.length_toList, List.length_map] at h
  exact h
theorem StM.fits {h : Heap} (R : StM P w h a L es ep t) : t.fits es.size = true := by
  have h1 := R.tab.sz
  rw [List.length_map] at h1
  have h2 := R.size
  have h3 := R.room
  unfold SetTable.fits SetTable.fill
  rw [R.tab.dm, Bool.and_eq_true, beq_iff_eq, decide_eq_true_eq]
  show t.place.size = es.size ∧ t.place.size + 0 ≤ t.mask
  omega
theorem StM.entry (R : StM P w s.heap a L es ep t) {i : Nat} {p : Addr × List Key} (h : L[i]? = some p) : es[i]? = some (hsh P w p.2, Value.ref p.1) := by
  rw [← Array.getElem?_toList, R.rows]
  unfold rwsM
  rw [List.getElem?_map, h] <;> rfl
theorem StM.gw (R : StM P w s.heap a L es ep t) : ¬ t.gaveWay = true := by
  unfold SetTable.gaveWay
  rw [mask_odd R.tab.mok]
  decide
theorem sameM (t : SetTable) : t.sameMemory t.moves t.mask = some true := by
  unfold SetTable.sameMemory
  rw [if_pos (beq_self_eq_true _)]

/-- THE SEARCH: from the c-th step of the way on -/
theorem seek_from (R : StM P w s.heap a L es ep t) {x : Addr} {k : List Key} (hx : IsM P w s.heap k x) (hu : A.units < cLine) {K : Nat} (hKf : K < 10 * SetTable.turns t.mask)
    (hK : way t.mask (hsh P w k) K ∉ t.place.toList) (hKb : ∀ c, c < K → way t.mask (hsh P w k) c ∈ t.place.toList) {Q : SetFound → Shared → Prop}
    (hin : k ∈ L.map (·.2) → Q (.there none) s) (hout : k ∉ L.map (·.2) → Q (.free (way t.mask (hsh P w k) K) false) s) :
    ∀ (f c : Nat) (stand : Option SetTable.Probe), stand.getD (t.probeStart (hsh P w k)) = nth t.mask (runAt t.mask (SetTable.bits (hsh P w k) % (t.mask + 1)) (SetTable.bits (hsh P w k))) c → c ≤ K → K - c < f →
      (∀ (i : Nat) p, L[i]? = some p → p.2 = k → ∃ c', c ≤ c' ∧ c' < K ∧ t.place.toList[i]? = some (way t.mask (hsh P w k) c')) →
      wpAny (model P w) A (setSearchFrom a (.ref x) (hsh P w k) true f stand) Q E s
  | 0, c, stand, _, _, hf, _ => absurd hf (Nat.not_lt_zero _)
  | f + 1, c, stand, hst, hc, hf, hre => by
    obtain ⟨o, ho, hex, hd⟩ := R.ob
    rw [setSearchFrom_succ]
    refine wpAny_bind (wpAny_setState_of ho hd R.fits ?_)
    dsimp only
    refine wp_if_neg R.gw ?_
    try refine wpAny_bind (wpAny_pure ?_)
    have hnd : (nth t.mask (runAt t.mask (SetTable.bits (hsh P w k) % (t.mask + 1)) (SetTable.bits (hsh P w k))) c).dummy = none := by
      have key : ∀ (n : Nat) (p : SetTable.Probe), p.dummy = none → (nth t.mask p n).dummy = none := by
        intro n
        induction n with
        | zero => intro p h; exact h
        | succ n ih =>
          intro p h
          refine ih (adv t.mask p) ?_
          unfold adv
          split <;> exact h
      exact key c _ rfl
    have sh : ∀ q, nth t.mask (nth t.mask (runAt t.mask (SetTable.bits (hsh P w k) % (t.mask + 1)) (SetTable.bits (hsh P w k))) c) q = nth t.mask (runAt t.mask (SetTable.bits (hsh P w k) % (t.mask + 1)) (SetTable.bits (hsh P w k))) (c + q) := fun q => (nth_add t.mask c _ q).symm
    have e1 : ∀ q, (nth t.mask (nth t.mask (runAt t.mask (SetTable.bits (hsh P w k) % (t.mask + 1)) (SetTable.bits (hsh P w k))) c) q).j = way t.mask (hsh P w k) (c + q) := fun q => congrArg SetTable.Probe.j (sh q)
    have spec := go_spec t R.tab.ris R.tab.dm (fun i => (es[i]?.map (·.1)).getD 0) (hsh P w k) (10 * SetTable.turns t.mask) (K - c) _ hnd (by omega)
      (fun q hq => by rw [e1]; exact hKb (c + q) (by omega)) (by rw [e1, show c + (K - c) = K by omega]; exact hK)
    have hashAt : ∀ (i : Nat) p, L[i]? = some p → (fun i => (es[i]?.map (·.1)).getD 0) i = hsh P w p.2 := fun i p hp => by
      show (es[i]?.map (·.1)).getD 0 = _
      rw [R.entry hp] <;> rfl
    rcases spec with ⟨q, i, hq, hi, hh, hno, hpr⟩ | ⟨hno, hpr⟩
    · -- a candidate
      have hpr' : t.probe (fun i => (es[i]?.map (·.1)).getD 0) (hsh P w k) (stand.getD (t.probeStart (hsh P w k))) = some (.candidate (way t.mask (hsh P w k) (c + q)) i (nth t.mask (runAt t.mask (SetTable.bits (hsh P w k) % (t.mask + 1)) (SetTable.bits (hsh P w k))) (c + (q + 1)))) := by
        rw [hst, ← e1, ← sh]
        exact hpr
      rw [hpr']
      dsimp only
      rw [e1] at hi
      -- the entry
      have hil : i < L.length := by
        have h1 : i < t.place.toList.length := (List.getElem?_eq_some_iff.mp hi).1
        have h2 := R.tab.sz
        rw [List.length_map] at h2
        rw [Array.length_toList] at h1
        omega
      have hp : L[i]? = some L[i] := List.getElem?_eq_getElem hil
      generalize hpe : L[i] = p at hp
      have hmem : p ∈ L := List.mem_of_getElem? hp
      have hpt := R.tup p hmem
      have rest : wpAny (model P w) A (searchRest a (.ref x) (hsh P w k) true f es t (way t.mask (hsh P w k) (c + q)) i (nth t.mask (runAt t.mask (SetTable.bits (hsh P w k) % (t.mask + 1)) (SetTable.bits (hsh P w k))) (c + (q + 1)))) Q E s := by
        unfold searchRest
        rw [R.entry hp]
        dsimp only
        refine wpAny_bind (wpAny_holding (wpAny_eqBool_tuple hu hpt hx ?_))
        refine wpAny_bind (wpAny_setState_of ho hd R.fits ?_)
        dsimp only
        by_cases hkk : p.2 = k
        · refine wp_if_pos (by simp [hkk]) ?_
          refine wpAny_pure (hin ?_)
          exact List.mem_map.mpr ⟨p, hmem, hkk⟩
        · refine wp_if_neg (by simp [hkk]) ?_
          try refine wpAny_bind (wpAny_pure ?_)
          rw [sameM]
          dsimp only
          have hsl : t.slot (way t.mask (hsh P w k) (c + q)) = .live i := slot_live R.tab.ris hi
          simp only [if_true, hsl, R.entry hp]
          refine wpAny_bind (wpAny_isSame_ref_self (wpAny_bind (wpAny_pure ?_)))
          simp only [if_true]
          refine wp_if_neg (by simp [hkk]) ?_
          refine seek_from R hx hu hKf hK hKb hin hout f (c + (q + 1)) _ rfl (by omega) (by omega) fun i0 p0 h0 hk0 => ?_
          obtain ⟨c', a1, a2, a3⟩ := hre i0 p0 h0 hk0
          refine ⟨c', ?_, a2, a3⟩
          -- it isn't passed
          rcases Nat.lt_or_ge c' (c + q) with z | z
          · exfalso
            refine hno (c' - c) i0 (by omega) (by rw [e1, show c + (c' - c) = c' by omega]; exact a3) ?_
            exact (hashAt i0 p0 h0).trans (congrArg (hsh P w) hk0)
          · rcases Nat.lt_or_ge (c + q) c' with y | y
            · omega
            · exfalso
              have ec : c' = c + q := Nat.le_antisymm y z
              rw [ec] at a3
              have s0 := slot_live R.tab.ris a3
              rw [hsl] at s0
              injection s0 with s0
              rw [← s0, hp] at h0
              exact hkk ((congrArg Prod.snd (Option.some.inj h0)).trans hk0)
      by_cases hl : t.led = true
      · refine wp_if_neg (by simp [hl]) ?_
        try refine wpAny_bind (wpAny_pure ?_)
        exact rest
      · refine wp_if_pos (by simp [hl]) ?_
        refine wpAny_bind (shown_tup hx (fun y hy => ?_) ?_)
        · obtain ⟨e, he, ee⟩ := List.mem_map.mp hy
          have he1 : e ∈ es ∧ e.1 = hsh P w k := by simpa using he
          have he2 : e ∈ es.toList := by simpa using he1.1
          rw [R.rows] at he2
          obtain ⟨p2, hp2, e2⟩ := List.mem_map.mp he2
          refine ⟨p2.2, p2.1, ?_, R.tup p2 hp2⟩
          rw [← ee, ← e2]
        · refine wp_if_neg (by decide) ?_
          try refine wpAny_bind (wpAny_pure ?_)
          exact rest
    · -- the empty slot
      have hpr' : t.probe (fun i => (es[i]?.map (·.1)).getD 0) (hsh P w k) (stand.getD (t.probeStart (hsh P w k))) = some (.empty (way t.mask (hsh P w k) K) none) := by
        have e2 : way t.mask (hsh P w k) K = (nth t.mask (nth t.mask (runAt t.mask (SetTable.bits (hsh P w k) % (t.mask + 1)) (SetTable.bits (hsh P w k))) c) (K - c)).j := by
          rw [e1, show c + (K - c) = K by omega]
        rw [hst, e2]
        exact hpr
      rw [hpr']
      dsimp only
      refine wpAny_pure (hout fun hm => ?_)
      obtain ⟨p0, h0, hk0⟩ := List.mem_map.mp hm
      obtain ⟨i0, hi0, e0⟩ := List.getElem_of_mem h0
      have h00 : L[i0]? = some p0 := by rw [List.getElem?_eq_getElem hi0, e0]
      obtain ⟨c', a1, a2, a3⟩ := hre i0 p0 h00 hk0
      refine hno (c' - c) i0 (by omega) (by rw [e1, show c + (c' - c) = c' by omega]; exact a3) ?_
      exact (hashAt i0 p0 h00).trans (congrArg (hsh P w) hk0)

/-- the search as adding asks for it -/
theorem seek_at (R : StM P w s.heap a L es ep t) {x : Addr} {k : List Key} (hx : IsM P w s.heap k x) (hu : A.units < cLine) {Q : SetFound → Shared → Prop}
    (hin : k ∈ L.map (·.2) → Q (.there none) s)
    (hout : ∀ K, k ∉ L.map (·.2) → way t.mask (hsh P w k) K ∉ t.place.toList → (∀ c, c < K → way t.mask (hsh P w k) c ∈ t.place.toList) → Q (.free (way t.mask (hsh P w k) K) false) s) :
    wpAny (model P w) A (setSearch a (.ref x) (hsh P w k) true) Q E s := by
  have hroom := R.room
  obtain ⟨K, hKf, hK, hKb⟩ := R.tab.first (by rw [List.length_map]; omega) (hsh P w k)
  have hbig : K < 100000 := by
    have : 10 * SetTable.turns t.mask ≤ 1420 := by
      unfold SetTable.turns
      rcases R.tab.mok with e | e | e <;> omega
    omega
  unfold setSearch
  refine seek_from R hx hu hKf hK hKb hin (fun hn => hout K hn hK hKb) 100000 0 none rfl (Nat.zero_le _) (by omega) fun i p hp hk => ?_
  have hi : (L.map fun p => hsh P w p.2)[i]? = some (hsh P w k) := by rw [List.getElem?_map, hp, ← hk] <;> rfl
  have hil : i < t.place.toList.length := by
    have h1 : i < L.length := (List.getElem?_eq_some_iff.mp hp).1
    have h2 := R.tab.sz
    rw [List.length_map] at h2
    rw [Array.length_toList]
    omega
  have hj := List.getElem?_eq_getElem hil
  obtain ⟨c, hc, e⟩ := R.tab.before hK hi hj
  exact ⟨c, Nat.zero_le _, hc, by rw [hj, e]⟩
end
section
variable {P : Program} {w : World} {A : Around} {E : Value → Shared → Prop} {s : Shared}
/-- a tuple isn't the set -/
theorem isM_same {h h' : Heap} {k : List Key} {a b : Addr} {o : Obj} {es : Array (Int × Value)} {ep : Nat} {t : SetTable} (hb : IsM P w h k b) (ho : h.get? a = some o) (hd : o.data = .set es ep t) (hs : Heap.SameBut a h h') : IsM P w h' k b := by
  obtain ⟨o', items, n, ho', hc, hd', hi⟩ := hb
  have hne : b ≠ a := by
    rintro rfl
    obtain rfl : o' = o := Option.some.inj (ho'.symm.trans ho)
    rw [hd] at hd'
    exact nomatch hd'
  exact ⟨o', items, n, (hs.2 b hne).trans ho', hc, hd', hi⟩
theorem rws_put (L : List (Addr × List Key)) (p : Nat) (x : Addr) (k : List Key) : rwsM P w (L.take p ++ (x, k) :: L.drop p) = (rwsM P w L).take p ++ (hsh P w k, Value.ref x) :: (rwsM P w L).drop p := by
  unfold rwsM
  rw [List.map_append, List.map_cons, List.map_take, List.map_drop]
theorem lay_perm {α : Type} (L : List α) (p : Nat) (x : α) : (L.take p ++ x :: L.drop p).Perm (x :: L) := by
  have h : (L.take p ++ x :: L.drop p).Perm (x :: (L.take p ++ L.drop p)) := List.perm_middle
  rw [List.take_append_drop] at h
  exact h
theorem order_rws (L : List (Addr × List Key)) (es : Array (Int × Value)) (order : Array Nat) (hr : es.toList = rwsM P w L) (hp : order.toList.Perm (List.range L.length)) :
    ∃ L2, (order.filterMap (es[·]?)).toList = rwsM P w L2 ∧ L2.Perm L ∧ (L2.map fun p => hsh P w p.2) = order.toList.map fun i => (es.map (·.1)).getD i 0 := by
  have hsz : es.size = L.length := by
    have h := congrArg List.length hr
    unfold rwsM at h
    rw [Array.length_toList, List.length_map] at h
    exact h
  have ent : ∀ i (h : i < L.length), es[i]? = some (hsh P w (L[i]).2, Value.ref (L[i]).1) := fun i h => by
    rw [← Array.getElem?_toList, hr]
    unfold rwsM
    rw [List.getElem?_map, List.getElem?_eq_getElem h] <;> rfl
  have key : ∀ l : List Nat, (∀ i ∈ l, i < L.length) → ∃ L2 : List (Addr × List Key), l.filterMap (fun i => es[i]?) = rwsM P w L2 ∧ L2 = l.filterMap (fun i => L[i]?) ∧ (L2.map fun p => hsh P w p.2) = l.map fun i => (es.map (·.1)).getD i 0 := by
    intro l
    induction l with
    | nil => intro _; exact ⟨[], rfl, rfl, rfl⟩
    | cons i l ih =>
      intro hl
      have hi := hl i List.mem_cons_self
      obtain ⟨L2, e1, e2, e3⟩ := ih fun j hj => hl j (List.mem_cons_of_mem _ hj)
      refine ⟨L[i] :: L2, ?_, ?_, ?_⟩
      · rw [List.filterMap_cons_some (ent i hi), e1] <;> rfl
      · rw [List.filterMap_cons_some (List.getElem?_eq_getElem hi), e2]
      · rw [List.map_cons, List.map_cons, e3]
        have hi2 : i < (es.map (·.1)).size := by rw [Array.size_map, hsz]; exact hi
        have e4 : (es.map (·.1)).getD i 0 = hsh P w (L[i]).2 := by
          have e5 : (es.map (·.1))[i]? = some (hsh P w (L[i]).2) := by rw [Array.getElem?_map, ent i hi] <;> rfl
          simp [Array.getD_eq_getD_getElem?, e5]
        rw [e4]
  obtain ⟨L2, e1, e2, e3⟩ := key order.toList fun i hi => List.mem_range.mp (hp.mem_iff.mp hi)
  refine ⟨L2, by first | (rw [Array.toList_filterMap]; exact e1) | simpa using e1, ?_, e3⟩
  have h1 : L2.Perm ((List.range L.length).filterMap fun i => L[i]?) := by
    rw [e2]
    exact hp.filterMap _
  have h2 : (List.range L.length).filterMap (fun i => L[i]?) = L := by
    have key2 : ∀ n, n ≤ L.length → (List.range n).filterMap (fun i => L[i]?) = L.take n := by
      intro n
      induction n with
      | zero => intro _; rfl
      | succ n ih =>
        intro hn
        have hlt : n < L.length := hn
        rw [List.range_succ, List.filterMap_append, ih (Nat.le_of_lt hlt), List.take_succ, List.getElem?_eq_getElem hlt]
        rw [List.filterMap_cons_some (List.getElem?_eq_getElem hlt)] <;> rfl
    rw [key2 L.length (Nat.le_refl _), List.take_length]
  rw [h2] at h1
  exact h1

variable {a : Addr} {L : List (Addr × List Key)} {es : Array (Int × Value)} {ep : Nat} {t : SetTable}
/-- the table laid anew, larger -/
theorem anew_at {o : Obj} (ho : s.heap.get? a = some o) (hex : o.ExactSet) (hd : o.data = .set es ep t) (hrows : es.toList = rwsM P w L) (hsz : t.place.size = es.size) (hdm : t.dummies = #[]) (hfl : es.size ≤ t.mask)
    (nd : (L.map (·.2)).Nodup) (tup : ∀ p ∈ L, IsM P w s.heap p.2 p.1) (ld : w.params.followText "set-order" = true ∨ t.led = true) (few : L.length < 64) {wanted M : Nat}
    (hw : SetTable.sizeAbove wanted - 1 = M) (hM : MaskOk M) (hw2 : SetTable.sizeAbove wanted ≤ 128) (hn : L.length * 5 < M * 3) {Q : Unit → Shared → Prop}
    (hQ : ∀ h' L' es' ep' t', Heap.SameBut a s.heap h' → StM P w h' a L' es' ep' t' → L'.Perm L → Q () { s with heap := h' }) : wpAny (model P w) A (setRelay a wanted) Q E s := by
  have hsl : es.size = L.length := by
    have h := congrArg List.length hrows
    unfold rwsM at h
    rw [Array.length_toList, List.length_map] at h
    exact h
  have hfits : t.fits es.size = true := by
    unfold SetTable.fits SetTable.fill
    rw [hdm, Bool.and_eq_true, beq_iff_eq, decide_eq_true_eq]
    show t.place.size = es.size ∧ t.place.size + 0 ≤ t.mask
    omega
  obtain ⟨t', order, e, hp, T, em, el, ep', ed⟩ := relaid_ok t (hs := es.map (·.1)) (wanted := wanted) hw hM (by rw [Array.size_map, hsl]; omega)
  rw [Array.size_map, hsl] at hp
  obtain ⟨L2, r1, r2, r3⟩ := order_rws L es order hrows hp
  rw [← r3] at T
  have hs2 : (order.filterMap (es[·]?)).size = es.size := by
    have h := congrArg List.length r1
    unfold rwsM at h
    rw [Array.length_toList, List.length_map, r2.length_eq] at h
    rw [h, hsl]
  rw [setRelay_eq]
  refine wpAny_bind (wpAny_setState_of ho hd hfits ?_)
  dsimp only
  refine wp_if_neg (by rw [sizeLine_eq]; omega) ?_
  try refine wpAny_bind (wpAny_pure ?_)
  rw [e]
  dsimp only
  refine wpAny_bind ?_
  refine wp_if_neg (by rw [hs2]; simp) ?_
  try refine wpAny_bind (wpAny_pure ?_)
  refine wpAny_pure ?_
  dsimp only
  refine wpAny_storeSet_of ho hd ?_ (by rw [hs2, hsl, sizeLine_eq]; omega)
  have sb : Heap.SameBut a s.heap (s.heap.update a (Obj.putSet (order.filterMap (es[·]?)) t')) := Heap.SameBut.update ..
  refine hQ _ L2 (order.filterMap (es[·]?)) (ep + 1) t' sb ?_ r2
  refine ⟨⟨_, store_at ho hd, ⟨hex.1, hex.2.1, hex.2.2⟩, rfl⟩, r1, T, ?_, fun p hpm => isM_same (tup p (r2.mem_iff.mp hpm)) ho hd sb, by rw [el]; exact ld, ?_, by rw [r2.length_eq]; exact few⟩
  · exact (r2.map (·.2)).nodup_iff.mpr nd
  · rw [r2.length_eq, em]
    exact hn

/-- ADDING -/
theorem join_at (R : StM P w s.heap a L es ep t) {x : Addr} {k : List Key} (hx : IsM P w s.heap k x) (hu : A.units < cLine) (hfew : L.length + 1 < 64) {Q : Bool → Shared → Prop}
    (hQ : ∀ b h' L' es' ep' t', Heap.SameBut a s.heap h' → StM P w h' a L' es' ep' t' → (k ∈ L.map (·.2) → L' = L) → (k ∉ L.map (·.2) → L'.Perm ((x, k) :: L)) → Q b { s with heap := h' }) :
    wpAny (model P w) A (setAddHashed a (.ref x) (hsh P w k)) Q E s := by
  obtain ⟨o, ho, hex, hd⟩ := R.ob
  have hsl := R.size
  have hroom := R.room
  unfold setAddHashed
  refine wpAny_holding ?_
  rw [show (100000 : Nat) = 99999 + 1 from rfl, setAddHashedIn_succ]
  refine wpAny_bind (wpAny_setState_of ho hd R.fits ?_)
  dsimp only
  refine wp_if_neg (by simp [byScan, Value.scannable]) ?_
  try refine wpAny_bind (wpAny_pure ?_)
  refine wpAny_bind (seek_at R hx hu (fun hm => ?_) fun K hm hK hb => ?_)
  · dsimp only
    exact wpAny_pure (hQ false s.heap L es ep t (Heap.SameBut.refl a s.heap) R (fun _ => rfl) fun z => absurd hm z)
  · dsimp only
    refine wpAny_bind (wpAny_setState_of ho hd R.fits ?_)
    dsimp only
    obtain ⟨q1, q2, q3, q4, q5, q6, q7, q8, q9⟩ := R.tab.put hK hb
    generalize hpt : t.put (way t.mask (hsh P w k) K) = pt at q1 q3 q4 q5 q6 q7 q8 q9 ⊢
    obtain ⟨t0, p⟩ := pt
    dsimp only at q1 q3 q4 q5 q6 q7 q8 q9 ⊢
    subst q1
    suffices any : ∀ bv : Bool, wpAny (model P w) A (do
        storeSet a (SetTable.insertAt es (SetTable.below t.place (way t.mask (hsh P w k) K)) (hsh P w k, Value.ref x)) (if bv = true then t0 else { t0 with plain := false })
        if (!false && (if bv = true then t0 else { t0 with plain := false }).tooFull) = true then do
            setRelay a (SetTable.grown (es.size + 1))
            pure true
          else pure true) Q E s by
      by_cases pl : t0.plain = true
      · exact wp_if_pos pl (wpAny_bind (byVal_tup hx any))
      · exact wp_if_neg pl (wpAny_bind (wpAny_pure (any true)))
    intro bv
    have same : ∃ t1, (if bv = true then t0 else { t0 with plain := false }) = t1 ∧ TabOk t1 (List.take (SetTable.below t.place (way t.mask (hsh P w k) K)) (L.map fun p => hsh P w p.2) ++ hsh P w k :: List.drop (SetTable.below t.place (way t.mask (hsh P w k) K)) (L.map fun p => hsh P w p.2)) ∧
        t1.mask = t.mask ∧ t1.led = t.led ∧ t1.fill = (L.map fun p => hsh P w p.2).length + 1 := by
      cases bv with
      | true => exact ⟨t0, by rw [if_pos rfl], q3, q4, q5, q9⟩
      | false => exact ⟨{ t0 with plain := false }, by rw [if_neg (by decide)], ⟨q3.ris, q3.dm, q3.sz, q3.mok, q3.bd, q3.reach⟩, q4, q5, q9⟩
    obtain ⟨t1, e1, q3, q4, q5, q9⟩ := same
    simp only [e1]
    have hin : (SetTable.insertAt es (SetTable.below t.place (way t.mask (hsh P w k) K)) (hsh P w k, Value.ref x)).toList = rwsM P w (L.take (SetTable.below t.place (way t.mask (hsh P w k) K)) ++ (x, k) :: L.drop (SetTable.below t.place (way t.mask (hsh P w k) K))) := by
      rw [SetTable.toList_insertAt, rws_put, R.rows]
    generalize hpp : SetTable.below t.place (way t.mask (hsh P w k) K) = p at q2 q3 hin ⊢
    have pm := lay_perm L p (x, k)
    have hlen : (L.take p ++ (x, k) :: L.drop p).length = L.length + 1 := pm.length_eq
    have hhs : (L.take p ++ (x, k) :: L.drop p).map (fun p => hsh P w p.2) = (L.map fun p => hsh P w p.2).take p ++ hsh P w k :: (L.map fun p => hsh P w p.2).drop p := by
      rw [List.map_append, List.map_cons, List.map_take, List.map_drop]
    rw [← hhs] at q3
    have nd1 : ((L.take p ++ (x, k) :: L.drop p).map (·.2)).Nodup := by
      refine (pm.map (·.2)).nodup_iff.mpr ?_
      rw [List.map_cons]
      exact List.nodup_cons.mpr ⟨hm, R.nd⟩
    have hes : (SetTable.insertAt es p (hsh P w k, Value.ref x)).size = L.length + 1 := by
      have h := congrArg List.length hin
      unfold rwsM at h
      rw [Array.length_toList, List.length_map, hlen] at h
      exact h
    generalize SetTable.insertAt es p (hsh P w k, Value.ref x) = es1 at hin hes ⊢
    generalize L.take p ++ (x, k) :: L.drop p = L1 at pm hlen q3 nd1 hin
    refine wpAny_bind (wpAny_storeSet_of ho hd ?_ (by rw [hes, sizeLine_eq]; omega))
    have sb : Heap.SameBut a s.heap (s.heap.update a (Obj.putSet es1 t1)) := Heap.SameBut.update ..
    have ho1 := store_at (es' := es1) (t' := t1) ho hd
    generalize s.heap.update a (Obj.putSet es1 t1) = h1 at sb ho1 ⊢
    have tup1 : ∀ p ∈ L1, IsM P w h1 p.2 p.1 := fun p hp => by
      rcases List.mem_cons.mp (pm.mem_iff.mp hp) with e | hp
      · rw [e]; exact isM_same hx ho hd sb
      · exact isM_same (R.tup p hp) ho hd sb
    have ld1 : w.params.followText "set-order" = true ∨ t1.led = true := by rw [q5]; exact R.led
    by_cases hf : t1.tooFull = true
    · first
        | (refine wpAny_bind ?_; refine wp_if_pos (by simp [hf]) ?_)
        | (refine wp_if_pos (by simp [hf]) ?_; refine wpAny_bind ?_)
      have hfull : (L.length + 1) * 5 ≥ t1.mask * 3 := by
        have h := hf
        unfold SetTable.tooFull at h
        rw [decide_eq_true_eq, q9, List.length_map] at h
        exact h
      rw [hsl]
      have hsz1 : t1.place.size = es1.size := by
        have h := q3.sz
        rw [List.length_map, hlen] at h
        rw [h, hes]
      have cases2 : (t.mask = 7 ∧ L.length = 4) ∨ (t.mask = 31 ∧ L.length = 18) := by
        rcases R.tab.mok with e | e | e
        · left; rw [q4, e] at hfull; rw [e] at hroom; exact ⟨e, by omega⟩
        · right; rw [q4, e] at hfull; rw [e] at hroom; exact ⟨e, by omega⟩
        · exfalso; rw [q4, e] at hfull; omega
      have go : ∀ M, SetTable.sizeAbove (SetTable.grown (L.length + 1)) - 1 = M → MaskOk M → SetTable.sizeAbove (SetTable.grown (L.length + 1)) ≤ 128 → (L.length + 1) * 5 < M * 3 →
          wpAny (model P w) A (setRelay a (SetTable.grown (L.length + 1))) (fun _ s' => wpAny (model P w) A (pure true) Q E s') E { s with heap := h1 } := fun M h1' h2' h3' h4' => by
        refine anew_at (s := { s with heap := h1 }) ho1 ⟨hex.1, hex.2.1, hex.2.2⟩ rfl hin hsz1 q3.dm (by rw [hes, q4]; rcases cases2 with ⟨e, e2⟩ | ⟨e, e2⟩ <;> omega) nd1 tup1 ld1 (by rw [hlen]; exact hfew) h1' h2' h3' (by rw [hlen]; exact h4') ?_
        intro h2 L2 es2 ep2 t2 sb2 R2 pm2
        refine wpAny_pure (hQ true h2 L2 es2 ep2 t2 (sb.trans sb2) R2 (fun z => absurd z hm) fun _ => pm2.trans pm)
      rcases cases2 with ⟨_, e2⟩ | ⟨_, e2⟩
      · refine go 31 (by rw [e2, size_20]) (.inr (.inl rfl)) (by rw [e2, size_20]; decide) (by omega)
      · refine go 127 (by rw [e2, size_76]) (.inr (.inr rfl)) (by rw [e2, size_76]; decide) (by omega)
    · first
        | refine wp_if_neg (by simp [hf]) ?_
        | (refine wpAny_bind ?_; refine wp_if_neg (by simp [hf]) ?_; refine wpAny_pure ?_)
      refine wpAny_pure (hQ true h1 L1 es1 (ep + 1) t1 sb ⟨⟨_, ho1, ⟨hex.1, hex.2.1, hex.2.2⟩, rfl⟩, hin, q3, nd1, tup1, ld1, ?_, by rw [hlen]; exact hfew⟩ (fun z => absurd z hm) fun _ => pm)
      have h := hf
      unfold SetTable.tooFull at h
      rw [decide_eq_true_eq, q9, List.length_map] at h
      rw [hlen]
      omega
end
end PL
set_option Elab.async false
set_option linter.all false
set_option maxRecDepth 100000
set_option maxHeartbeats 3200000
/-! PS2: sets of texts, sets of tuples: one way to ask of both. -/
namespace PL
open PySem PySem.Spec PyProof.Rows L2

/-- a set's object, as its reader needs it -/
def SetRd (w : World) (h : Heap) (a : Addr) (vs : List Value) : Prop :=
  ∃ o es ep t, h.get? a = some o ∧ o.ExactSet ∧ o.data = .set es ep t ∧ t.fits es.size = true ∧ es.size < scanBound ∧ Ris t.place.toList ∧ (w.params.followText "set-order" = true ∨ t.led = true) ∧ (es.toList.map (·.2)).Perm vs
abbrev freshSet (w : World) : Obj := { cls := .type "set", dict := none, data := .set #[] 0 (.fresh 0 0 (!w.params.followText "set-order")) }
/-- sets of things that stand for members of T -/
structure SLk (P : Program) (w : World) (T : Type) where
  Is : Heap → T → Value → Prop
  St : Heap → Addr → List (Value × T) → Prop
  keepI : ∀ {h h' : Heap} {k : T} {v : Value}, Is h k v → (∀ c o, h.get? c = some o → h'.get? c = some o) → Is h' k v
  keepS : ∀ {h h' : Heap} {a : Addr} {L : List (Value × T)}, St h a L → (∀ o, h.get? a = some o → h'.get? a = some o) → (∀ p ∈ L, Is h' p.2 p.1) → St h' a L
  fresh : ∀ {h : Heap} {a : Addr}, h.get? a = some (freshSet w) → St h a []
  add : ∀ {A : Around} {E : Value → Shared → Prop} {s : Shared} {a : Addr} {L : List (Value × T)} {x : Value} {k : T} {Q : Bool → Shared → Prop}, A.units < cLine → St s.heap a L → Is s.heap k x → L.length + 1 < 64 →
    (∀ b h' L' tk, Heap.SameBut a s.heap h' → s.toks ≤ tk → St h' a L' → (k ∈ L.map (·.2) → L' = L) → (k ∉ L.map (·.2) → L'.Perm ((x, k) :: L)) → Q b { s with heap := h', toks := tk }) → wpAny (model P w) A (setAdd a x) Q E s
  read : ∀ {h : Heap} {a : Addr} {L : List (Value × T)}, St h a L → SetRd w h a (L.map (·.1))
  nd : ∀ {h : Heap} {a : Addr} {L : List (Value × T)}, St h a L → (L.map (·.2)).Nodup
  is : ∀ {h : Heap} {a : Addr} {L : List (Value × T)}, St h a L → ∀ p ∈ L, Is h p.2 p.1

/-! ### texts -/
def TxE (w : World) (e : Int × Value) (p : Value × Str) : Prop := ∃ tk, e = (hashStr w p.2, .str p.2 tk) ∧ p.1 = .str p.2 tk
structure TxSt (w : World) (h : Heap) (a : Addr) (L : List (Value × Str)) : Prop where
  ex : ∃ o es ep t, h.get? a = some o ∧ o.ExactSet ∧ o.data = .set es ep t ∧ es.toList.Perm (L.map fun p => (hashStr w p.2, p.1)) ∧ t.fits es.size = true ∧ Ris t.place.toList ∧ (w.params.followText "set-order" = true ∨ t.led = true)
  tx : ∀ p ∈ L, ∃ tk, p.1 = .str p.2 tk
  nd : (L.map (·.2)).Nodup
  few : L.length < 64
section
variable {P : Program} {w : World} {A : Around} {E : Value → Shared → Prop} {s : Shared} {a : Addr} {L : List (Value × Str)}
theorem tx_size {es : Array (Int × Value)} (p : es.toList.Perm (L.map fun p => (hashStr w p.2, p.1))) : es.size = L.length := by
  rw [← Array.length_toList, p.length_eq, List.length_map]
theorem tx_elems {es : Array (Int × Value)} (tx : ∀ p ∈ L, ∃ tk, p.1 = .str p.2 tk) (p : es.toList.Perm (L.map fun p => (hashStr w p.2, p.1))) : ElemsOf (strKind P w) es.toList := fun e he => by
  obtain ⟨q, hq, rfl⟩ := List.mem_map.mp (p.mem_iff.mp he)
  obtain ⟨tk, e1⟩ := tx q hq
  exact ⟨⟨q.2, by rw [e1]; exact strKind_is P w q.2 tk, rfl⟩, by rw [e1]; rfl⟩
theorem tx_is {x y : Str} {tk : Tok} : (strKind P w).is x (.str y tk) = true ↔ y = x := by
  show Value.isStrOf x (.str y tk) = true ↔ y = x
  simp [Value.isStrOf]
theorem tx_mem {es : Array (Int × Value)} {k : Str} (tx : ∀ p ∈ L, ∃ tk, p.1 = .str p.2 tk) (p : es.toList.Perm (L.map fun p => (hashStr w p.2, p.1))) : k ∈ L.map (·.2) ↔ ∃ e ∈ es.toList, (strKind P w).is k e.2 = true := by
  constructor
  · intro h
    obtain ⟨q, hq, rfl⟩ := List.mem_map.mp h
    obtain ⟨tk, e1⟩ := tx q hq
    exact ⟨_, p.mem_iff.mpr (List.mem_map.mpr ⟨q, hq, rfl⟩), by rw [e1]; exact tx_is.mpr rfl⟩
  · rintro ⟨e, he, hk⟩
    obtain ⟨q, hq, rfl⟩ := List.mem_map.mp (p.mem_iff.mp he)
    obtain ⟨tk, e1⟩ := tx q hq
    rw [e1] at hk
    rw [← tx_is.mp hk]
    exact List.mem_map.mpr ⟨q, hq, rfl⟩
/-- what is stored, then laid anew where it is too full -/
theorem tx_tail {g : Bool → Sem Unit} (hg : ∀ (b : Bool) (s₁ : Shared) (Q' : Unit → Shared → Prop), Q' () s₁ → wpAny (model P w) A (g b) Q' E s₁)
    {o : Obj} {es : Array (Int × Value)} {ep : Nat} {t : SetTable} (ho : s.heap.get? a = some o) (hex : o.ExactSet) (hd : o.data = .set es ep t) {es1 : Array (Int × Value)} {t2 : SetTable}
    (pm : es1.toList.Perm (L.map fun p => (hashStr w p.2, p.1))) (tx : ∀ p ∈ L, ∃ tk, p.1 = .str p.2 tk) (nd : (L.map (·.2)).Nodup) (few : L.length < 64) (f2 : t2.fits es1.size = true) (r2 : Ris t2.place.toList) (l2 : w.params.followText "set-order" = true ∨ t2.led = true)
    {dummy : Bool} {R : Option Bool → Shared → Prop} (hR : ∀ h', Heap.SameBut a s.heap h' → TxSt w h' a L → R (some true) { s with heap := h' }) :
    wpAny (model P w) A (do
        storeSet a es1 t2
        if (!dummy && t2.tooFull) = true then do
            g (relayAll t2 es1 (SetTable.grown es1.size)).2.2
            storeSet a (relayAll t2 es1 (SetTable.grown es1.size)).1 (relayAll t2 es1 (SetTable.grown es1.size)).2.1
            pure (some true)
          else pure (some true)) R E s := by
  have z1 : es1.size = L.length := tx_size pm
  have b1 : es1.size < scanBound := by rw [z1]; unfold scanBound; omega
  refine wpAny_bind (wpAny_storeSet_of ho hd ?_ (fits_of_scanBound b1))
  have ho1 := store_at (es' := es1) (t' := t2) ho hd
  have sb1 := Heap.SameBut.update s.heap a (Obj.putSet es1 t2)
  split
  · have q1 := relayAll_perm t2 es1 (SetTable.grown es1.size)
    have q2 := relayAll_fits t2 es1 (SetTable.grown es1.size)
    have q3 := relayAll_ris t2 es1 (SetTable.grown es1.size)
    have q4 := relayAll_led t2 es1 (SetTable.grown es1.size)
    generalize relayAll t2 es1 (SetTable.grown es1.size) = Z at q1 q2 q3 q4 ⊢
    obtain ⟨es2, t3, gave⟩ := Z
    dsimp only at q1 q2 q3 q4 ⊢
    have pm2 := q1.trans pm
    have z2 : es2.size = L.length := tx_size pm2
    refine wpAny_bind (hg _ _ _ ?_)
    refine wpAny_bind (wpAny_storeSet_of ho1 rfl ?_ (fits_of_scanBound (by rw [z2]; unfold scanBound; omega)))
    have ho2 := store_at (es' := es2) (t' := t3) ho1 rfl
    exact wpAny_pure (hR _ (sb1.trans (Heap.SameBut.update _ a _)) ⟨⟨_, es2, _, t3, ho2, hex, rfl, pm2, q2, q3, l2.imp id fun z => by rw [q4]; exact z⟩, tx, nd, few⟩)
  · exact wpAny_pure (hR _ sb1 ⟨⟨_, es1, _, t2, ho1, hex, rfl, pm, f2, r2, l2⟩, tx, nd, few⟩)
theorem tx_join {k : Str} {tk : Tok} {Q : Bool → Shared → Prop} (R : TxSt w s.heap a L) (room : L.length + 1 < 64)
    (hQ : ∀ b h' L', Heap.SameBut a s.heap h' → TxSt w h' a L' → (k ∈ L.map (·.2) → L' = L) → (k ∉ L.map (·.2) → L'.Perm ((.str k tk, k) :: L)) → Q b { s with heap := h' }) :
    wpAny (model P w) A (setAddHashed a (.str k tk) ((strKind P w).hash k)) Q E s := by
  obtain ⟨⟨o, es, ep, t, ho, hex, hd, pm, hf, hr, hl⟩, tx, nd, few⟩ := R
  have hkey : (strKind P w).is k (.str k tk) = true := strKind_is P w k tk
  have hsc : (Value.str k tk).scannable = true := rfl
  have hel : ElemsOf (strKind P w) es.toList := tx_elems tx pm
  have hz : es.size = L.length := tx_size pm
  have hb : es.size < scanBound := by rw [hz]; unfold scanBound; omega
  unfold setAddHashed setAddHashedIn
  refine wpAny_holding (wpAny_bind (wpAny_setState_of ho hd hf ?_))
  dsimp only
  rw [byScan_of hsc hb hel]
  simp only [↓reduceIte]
  unfold setAddByScan
  refine wpAny_bind ?_
  refine wpAny_bind (wpAny_rule ?_)
  refine wpAny_bind (wpAny_setScan_of hkey ho hd hf hel ?_)
  cases hfi : List.findIdx? (fun e => (strKind P w).is k e.2) es.toList with
  | some j =>
    dsimp only
    obtain ⟨hj, pj, _⟩ := List.findIdx?_eq_some_iff_getElem.mp hfi
    have hm : k ∈ L.map (·.2) := (tx_mem (P := P) tx pm).mpr ⟨_, List.getElem_mem hj, pj⟩
    exact wpAny_pure (wpAny_pure (hQ false s.heap L (Heap.SameBut.refl a s.heap) ⟨⟨o, es, ep, t, ho, hex, hd, pm, hf, hr, hl⟩, tx, nd, few⟩ (fun _ => rfl) fun z => absurd hm z))
  | none =>
    dsimp only
    have hm : k ∉ L.map (·.2) := fun z => by
      obtain ⟨e, he, q⟩ := (tx_mem (P := P) tx pm).mp z
      have c := List.findIdx?_eq_none_iff.mp hfi e he
      rw [q] at c
      cases c
    have hgw : ∀ (b : Bool) {s₁ : Shared} {Q' : Unit → Shared → Prop}, Q' () s₁ → wpAny (model P w) A (match b with | true => rule "set.scan.the-table-gave-way" | false => pure ()) Q' E s₁ :=
      fun b s₁ Q' q => by cases b <;> first | exact wpAny_pure q | exact wpAny_rule q
    have q1 := layNew_perm t es ((strKind P w).hash k) (.str k tk)
    have q2 := layNew_fits t es ((strKind P w).hash k) (.str k tk)
    have q3 := layNew_ris t es ((strKind P w).hash k) (.str k tk) hr
    have q4 := layNew_led t es ((strKind P w).hash k) (.str k tk)
    generalize layNew t es ((strKind P w).hash k) (.str k tk) = Z at q1 q2 q3 q4 ⊢
    obtain ⟨es1, t1, dummy, gave⟩ := Z
    dsimp only at q1 q2 q3 q4 ⊢
    rw [Array.toList_push] at q1
    have pm1 : es1.toList.Perm (((.str k tk, k) :: L : List (Value × Str)).map fun p => (hashStr w p.2, p.1)) :=
      (q1.trans (List.perm_append_singleton _ _)).trans (pm.cons _)
    have tx1 : ∀ p ∈ ((.str k tk, k) :: L : List (Value × Str)), ∃ tk, p.1 = .str p.2 tk := fun p hp => by
      rcases List.mem_cons.mp hp with z | z
      · rw [z]; exact ⟨tk, rfl⟩
      · exact tx p z
    have nd1 : (((.str k tk, k) :: L : List (Value × Str)).map (·.2)).Nodup := List.nodup_cons.mpr ⟨hm, nd⟩
    have led1 : w.params.followText "set-order" = true ∨ t1.led = true := hl.imp id fun z => by rw [q4]; exact z
    have fin : ∀ h', Heap.SameBut a s.heap h' → TxSt w h' a ((.str k tk, k) :: L) → Q true { s with heap := h' } := fun h' sb r => hQ true h' _ sb r (fun z => absurd z hm) fun _ => List.Perm.refl _
    refine wpAny_bind (hgw _ ?_)
    split
    · refine wpAny_bind ?_
      rw [hashByValue_scannable 8 hsc]
      refine wpAny_pure ?_
      refine tx_tail (L := (.str k tk, k) :: L) ?_ ho hex hd pm1 tx1 nd1 room ?_ ?_ ?_ ?_
      · intro b s₁ Q' q; cases b <;> first | exact wpAny_pure q | exact wpAny_rule q
      · first | (split <;> first | exact q2 | exact SetTable.fits_plain_off q2) | exact q2
      · first | (split <;> exact q3) | exact q3
      · first | (split <;> exact led1) | exact led1
      · intro h' sb r; dsimp only; exact wpAny_pure (fin h' sb r)
    · refine wpAny_bind (wpAny_pure ?_)
      simp only [↓reduceIte]
      refine tx_tail (L := (.str k tk, k) :: L) ?_ ho hex hd pm1 tx1 nd1 room q2 q3 led1 ?_
      · intro b s₁ Q' q; cases b <;> first | exact wpAny_pure q | exact wpAny_rule q
      · intro h' sb r; dsimp only; exact wpAny_pure (fin h' sb r)
end
/-- sets of texts -/
def slTx (P : Program) (w : World) : SLk P w Str where
  Is _ k v := ∃ tk, v = .str k tk
  St := TxSt w
  keepI h _ := h
  keepS := fun ⟨⟨o, es, ep, t, ho, r⟩, tx, nd, few⟩ k _ => ⟨⟨o, es, ep, t, k o ho, r⟩, tx, nd, few⟩
  fresh h := ⟨⟨_, #[], 0, _, h, ⟨rfl, rfl, rfl⟩, rfl, List.Perm.refl _, rfl, List.Pairwise.nil, by
    show _ ∨ (!w.params.followText "set-order") = true
    cases w.params.followText "set-order"
    · exact .inr rfl
    · exact .inl rfl⟩, fun p hp => absurd hp List.not_mem_nil, List.nodup_nil, by decide⟩
  add := fun hu R ⟨tk, e⟩ room hQ => by
    subst e
    unfold setAdd
    exact wpAny_holding (wpAny_bind ((strKind P w).pyHash (strKind_is _ _ _ _) (tx_join R room fun b h' L' sb r c1 c2 => hQ b h' L' _ sb (Nat.le_succ _) r c1 c2)))
  read := fun ⟨⟨o, es, ep, t, ho, hex, hd, pm, hf, hr, hl⟩, tx, nd, few⟩ => ⟨o, es, ep, t, ho, hex, hd, hf, by rw [tx_size pm]; unfold scanBound; omega, hr, hl, by
    have q := pm.map (·.2)
    rw [List.map_map] at q
    exact q⟩
  nd R := R.nd
  is R := R.tx
/-! ### tuples -/
def refP (p : Value × List Key) : Addr × List Key := match p.1 with | .ref a => (a, p.2) | _ => (0, p.2)
/-- sets of tuples -/
def slTu (P : Program) (w : World) : SLk P w (List Key) where
  Is h k v := ∃ a, v = .ref a ∧ IsM P w h k a
  St h a L := ∃ L1 es ep t, StM P w h a L1 es ep t ∧ L = L1.map fun p => (.ref p.1, p.2)
  keepI := fun ⟨a, e, o, its, n, ho, r⟩ k => ⟨a, e, o, its, n, k a o ho, r⟩
  keepS := fun ⟨L1, es, ep, t, R, e⟩ k hi => by
    obtain ⟨o, ho, r⟩ := R.ob
    refine ⟨L1, es, ep, t, ⟨⟨o, k o ho, r⟩, R.rows, R.tab, R.nd, fun p hp => ?_, R.led, R.room, R.few⟩, e⟩
    subst e
    obtain ⟨b, e1, h1⟩ := hi _ (List.mem_map.mpr ⟨p, hp, rfl⟩)
    cases e1
    exact h1
  fresh h := ⟨[], #[], 0, _, {
    ob := ⟨_, h, ⟨rfl, rfl, rfl⟩, rfl⟩
    rows := rfl
    tab := ⟨List.Pairwise.nil, rfl, rfl, .inl rfl, fun x hx => absurd hx List.not_mem_nil, fun i h j hi => by simp at hi⟩
    nd := List.nodup_nil
    tup := fun p hp => absurd hp List.not_mem_nil
    led := by
      show _ ∨ (!w.params.followText "set-order") = true
      cases w.params.followText "set-order"
      · exact .inr rfl
      · exact .inl rfl
    room := by show 0 * 5 < 7 * 3; decide
    few := by show 0 < 64; decide }, rfl⟩
  add := fun {A E s a L x k Q} hu ⟨L1, es, ep, t, R, e⟩ ⟨b, e2, hk⟩ room hQ => by
    subst e e2
    unfold setAdd
    have e3 : ∀ L1 : List (Addr × List Key), (L1.map fun p => ((.ref p.1, p.2) : Value × List Key)).map (·.2) = L1.map (·.2) := fun L1 => by rw [List.map_map]; rfl
    refine wpAny_holding (wpAny_bind (wpAny_pyHash_tuple hu hk (join_at (s := { s with toks := s.toks + (k.length + 1) }) R hk hu (by simpa using room) fun bb h' L' es' ep' t' sb R' c1 c2 => hQ bb h' _ _ sb (Nat.le_add_right _ _) ⟨L', es', ep', t', R', rfl⟩ (fun z => ?_) fun z => ?_)))
    · rw [e3] at z; rw [c1 z]
    · rw [e3] at z; exact (c2 z).map _
  read := fun ⟨L1, es, ep, t, R, e⟩ => by
    obtain ⟨o, ho, hex, hd⟩ := R.ob
    refine ⟨o, es, ep, t, ho, hex, hd, R.fits, by rw [R.size]; have := R.few; unfold scanBound; omega, R.tab.ris, R.led, ?_⟩
    rw [e, R.rows]
    unfold rwsM
    rw [List.map_map, List.map_map]
    exact List.Perm.refl _
  nd := fun ⟨L1, es, ep, t, R, e⟩ => by
    rw [e, List.map_map]
    exact R.nd
  is := fun ⟨L1, es, ep, t, R, e⟩ p hp => by
    subst e
    obtain ⟨q, hq, rfl⟩ := List.mem_map.mp hp
    exact ⟨q.1, rfl, R.tup q hq⟩
end PL
set_option Elab.async false
set_option linter.all false
set_option maxRecDepth 100000
set_option maxHeartbeats 3200000
/-! PS3: set(xs), sorted(set(xs)), len(set(xs)). -/
namespace PL
open PySem PySem.Spec PyProof.Rows L2
section
variable {P : Program} {w : World} {T : Type}
/-- what a set has of the first i ones -/
structure GotS (ks : List (Value × T)) (i : Nat) (L : List (Value × T)) : Prop where
  sub : ∀ p ∈ L, p ∈ ks.take i
  all : ∀ p ∈ ks.take i, p.2 ∈ L.map (·.2)
  len : L.length ≤ i
theorem GotS.zero (ks : List (Value × T)) : GotS ks 0 [] := ⟨fun p h => absurd h List.not_mem_nil, fun p h => by simp at h, Nat.le_refl _⟩
theorem GotS.same {ks L : List (Value × T)} {i : Nat} {x : Value × T} (g : GotS ks i L) (h : ks[i]? = some x) (hm : x.2 ∈ L.map (·.2)) : GotS ks (i + 1) L := by
  refine ⟨fun p hp => ?_, fun p hp => ?_, Nat.le_succ_of_le g.len⟩
  · rw [take_next h]; exact List.mem_append_left _ (g.sub p hp)
  · rw [take_next h] at hp
    exact (List.mem_append.mp hp).elim (g.all p) fun z => by rw [List.mem_singleton.mp z]; exact hm
theorem GotS.more {ks L L' : List (Value × T)} {i : Nat} {x : Value × T} (g : GotS ks i L) (h : ks[i]? = some x) (pm : L'.Perm (x :: L)) : GotS ks (i + 1) L' := by
  refine ⟨fun p hp => ?_, fun p hp => ?_, by rw [pm.length_eq]; exact Nat.succ_le_succ g.len⟩
  · rw [take_next h]
    exact (List.mem_cons.mp (pm.mem_iff.mp hp)).elim (fun e => by rw [e]; exact List.mem_append_right _ (List.mem_singleton.mpr rfl)) fun z => List.mem_append_left _ (g.sub p z)
  · rw [(pm.map (·.2)).mem_iff, List.map_cons]
    rw [take_next h] at hp
    exact (List.mem_append.mp hp).elim (fun z => List.mem_cons_of_mem _ (g.all p z)) fun z => by rw [List.mem_singleton.mp z]; exact List.mem_cons_self
/-- few ones are different -/
def Few {T : Type} (ks : List (Value × T)) : Prop := ∀ L : List (Value × T), (L.map (·.2)).Nodup → (∀ p ∈ L, p ∈ ks) → L.length < ks.length → L.length + 1 < 64
variable {A : Around} {E : Value → Shared → Prop} {s : Shared} (S : SLk P w T)
/-- the loop that fills a set -/
theorem fill_set {I : Addr} {fp wr : List Addr} {G : Array GenState → Array GenState → Prop} {n : Nat} {Pv : Nat → Value → Prop} {St : Nat → Shared → Prop} {R : Result → Shared → Prop}
    (W : WalksS P w A.in1 I fp wr G n Pv St) (D : Addr) (hSf : D ∉ fp) (ks : List (Value × T)) (hn : n = ks.length) (hfew : Few ks) (hval : ∀ i v, Pv i v → ∃ p, ks[i]? = some p ∧ v = p.1)
    (h0 : Heap) (hk : ∀ p ∈ ks, S.Is h0 p.2 p.1) (hS0 : h0.get? D = none) (hw0 : ∀ b ∈ wr, h0.get? b = none) (hu : A.in1.units < cLine) :
    ∀ (k i : Nat) (s : Shared), n - i = k → i ≤ n → St i s → (∀ b o, h0.get? b = some o → s.heap.get? b = some o) → (∃ L, S.St s.heap D L ∧ GotS ks i L) →
      (∀ s' L, Moved (D :: wr) G s s' → S.St s'.heap D L → GotS ks n L → (∀ b o, h0.get? b = some o → s'.heap.get? b = some o) → R (.ok (.ret .none)) s') →
      codeAny (model P w) A (.builtin "set.update.loop" ⟨[.ref D, .ref I], []⟩) R s := by
  have hSw : D ∉ wr := fun h => hSf (W.sub _ h)
  have into : ∀ b ∈ wr, b ∈ D :: wr := fun b hb => List.mem_cons_of_mem _ hb
  have keepM : ∀ {s s' : Shared}, Moved wr G s s' → (∀ b o, h0.get? b = some o → s.heap.get? b = some o) → ∀ b o, h0.get? b = some o → s'.heap.get? b = some o := fun hm hkp b o e =>
    hm.heap b o (fun hb => by rw [hw0 b hb] at e; cases e) (hkp b o e)
  intro k
  induction k with
  | zero =>
    intro i s hk' hi hst hkp ⟨L, hS, g⟩ hR
    obtain rfl : i = n := by omega
    refine codeAny_builtin F.entry_set_update_loop ?_
    rw [Around.under_plainId F.plain_set_update_loop _]
    show wpAny _ A.in1 (pyNext (.ref I) >>= fun z => _) _ _ s
    refine wpAny_bind (W.done s _ _ hst fun s' hm => ?_)
    show wpAny _ A.in1 (ret Value.none) _ _ s'
    have kp := keepM hm hkp
    exact wpAny_pure (hR s' L (hm.mono into) (S.keepS hS (fun o e => hm.heap D o hSw e) fun p hp => S.keepI (hk p (List.mem_of_mem_take (g.sub p hp))) kp) g kp)
  | succ k ih =>
    intro i s hk' hi hst hkp ⟨L, hS, g⟩ hR
    have hlt : i < n := by omega
    refine codeAny_builtin F.entry_set_update_loop ?_
    rw [Around.under_plainId F.plain_set_update_loop _]
    show wpAny _ A.in1 (pyNext (.ref I) >>= fun z => _) _ _ s
    refine wpAny_bind (W.item i s _ _ hlt hst fun v s' hP hst' hm => ?_)
    obtain ⟨p, hp, rfl⟩ := hval i v hP
    have kp := keepM hm hkp
    have hS' : S.St s'.heap D L := S.keepS hS (fun o e => hm.heap D o hSw e) fun q hq => S.keepI (hk q (List.mem_of_mem_take (g.sub q hq))) kp
    show wpAny _ A.in1 (holding [p.1] (setAdd D p.1) >>= fun z => _) _ _ s'
    refine wpAny_bind (wpAny_holding ?_)
    refine S.add hu hS' (S.keepI (hk p (List.mem_of_getElem? hp)) kp) (hfew L (S.nd hS') (fun q hq => List.mem_of_mem_take (g.sub q hq)) (by have := g.len; omega)) fun b h' L' tk' sb tle hS2 c1 c2 => ?_
    have g' : GotS ks (i + 1) L' := by
      rcases Classical.em (p.2 ∈ L.map (·.2)) with c | c
      · rw [c1 c]; exact g.same hp c
      · exact g.more hp (c2 c)
    have kp2 : ∀ b o, h0.get? b = some o → h'.get? b = some o := fun b o e => (sb.2 b (fun z => by rw [z, hS0] at e; cases e)).trans (kp b o e)
    refine wpAny_pure ⟨plainId_quiet F.plain_set_update_loop _, ih (i + 1) _ (by omega) hlt (W.frame _ s' _ _ hst' tle fun b hb o e => ?_) kp2 ⟨L', hS2, g'⟩ fun s'' L2 hm'' hS'' g'' kp'' => ?_⟩
    · rw [sb.2 b (fun h : b = D => hSf (by rw [← h]; exact hb))]; exact e
    · refine hR s'' L2 (Moved.trans W.gtrans ((hm.mono into).then_heap tle fun b o hb e => ?_) hm'') hS'' g'' kp''
      rw [sb.2 b (fun h : b = D => hb (by rw [h]; exact List.mem_cons_self))]; exact e
/-- set(xs), xs a list -/
theorem make_set_list {l : Addr} {items : Array Value} (ks : List (Value × T)) {Q : Value → Shared → Prop} (hh : A.handled = none) (hl : s.heap.IsList l items) (hit : items.toList = ks.map fun p => p.1)
    (hk : ∀ p ∈ ks, S.Is s.heap p.2 p.1) (hfew : Few ks) (hu : A.units + 3 < cLine)
    (h : ∀ (h' : Heap) (tk : Nat) L, S.St h' s.heap.objs.size L → GotS ks ks.length L → (∀ b o, s.heap.get? b = some o → h'.get? b = some o) → Q (.ref s.heap.objs.size) { s with heap := h', toks := tk }) :
    wpAny (model P w) A (call (.type "set") [.ref l]) Q E s := by
  have zks : items.size = ks.length := by
    have q := congrArg List.length hit
    rw [Array.length_toList, List.length_map] at q
    exact q
  obtain ⟨c, tl, hmro⟩ := F.called_set.mro
  have hmade := F.called_set.made
  have hsub := F.called_set.sub
  refine wpAny_call (codeAny_of_tree ?_)
  show wpAny _ _ (callAny (.type "set") _) _ _ _
  refine wpAny_pure ⟨Code.quiet_builtin _ (by decide +kernel), codeAny_builtin F.entry_type_call ?_⟩
  rw [Around.under_plain (weight_type_call_type "set" [.ref l] []) rfl]
  have g1 := F.called_set.notType
  have g2 := F.called_set.canCreate
  have g3 := F.typeCall_set_1 (.ref l)
  repeat (any_goals (first | assumption | wp_step))

  refine codeAny_mono (code_set_led1 (.ref l) (E := E) (Q₁ := fun obj s₁ => obj = .ref s.heap.objs.size ∧ s₁ = { s with heap := s.heap.push (freshSet w) }) ⟨rfl, rfl⟩) fun r s₁ hr => ?_
  cases r with
  | error e => exact hr
  | ok fl =>
    cases fl with
    | ret obj =>
      obtain ⟨rfl, rfl⟩ := hr
      have hS : (s.heap.push (freshSet w)).get? s.heap.objs.size = some (freshSet w) := Heap.get?_push_size _ rfl
      have hT : Shared.TypeIs { s with heap := s.heap.push (freshSet w) } (.ref s.heap.objs.size) "set" := ⟨_, hS, rfl⟩
      have g4 := F.called_set.init.lookup
      have g5 := F.called_set.init.bind (.ref s.heap.objs.size)
      repeat (any_goals (first | assumption | wp_step))

      refine codeAny_mono (codeAny_call_builtin (R := wants (fun r s₂ => r = .none ∧ ∃ h' tk L, s₂ = { s with heap := h', toks := tk } ∧ S.St h' s.heap.objs.size L ∧ GotS ks ks.length L ∧
          (∀ b o, s.heap.get? b = some o → h'.get? b = some o)) E) F.called_set.init.plain F.entry_set_init (check_set_init_1 hT ?_)) fun r₂ s₂ hr₂ => ?_
      · obtain ⟨ol, hol, hcl, nl, hdl⟩ := hl
        obtain ⟨ocls, odict, odata, oslots⟩ := ol
        simp only at hcl hdl
        subst hcl; subst hdl
        have hol' : (s.heap.push (freshSet w)).get? l = some { cls := .type "list", dict := odict, data := .seq items nl, slots := oslots } := Heap.get?_push_of_some _ hol
        have g6 := F.sub_list_set
        have g7 := F.sub_list_frozenset
        have g8 : (Value.type "list" == Value.type "dict") = false := by decide
        have hl1 : (s.heap.push (freshSet w)).IsList l items := ⟨_, hol', rfl, nl, rfl⟩
        unfold Builtin.«set.__init__» noKeywords Builtin.Frozenset.updateFrom
        generalize hPI : pyIter = PI
        wp_walk
        subst hPI

        refine wpAny_pyIter_list hl1 ?_
        refine wpAny_bind (wpAny_runValue ?_)
        have lS : l < s.heap.objs.size := Heap.lt_size hol
        have hh3 : A.in1.in1.in1.handled = none := by simp [hh]
        have sz1 : (s.heap.push (freshSet w)).objs.size = s.heap.objs.size + 1 := Heap.size_push ..
        have neI : l ≠ (s.heap.push (freshSet w)).objs.size := by rw [sz1]; exact Nat.ne_of_lt (Nat.lt_succ_of_lt lS)
        have nfp : s.heap.objs.size ∉ [(s.heap.push (freshSet w)).objs.size, l] := by
          rw [sz1]; simp only [List.mem_cons, List.mem_singleton, List.not_mem_nil, or_false, not_or]
          exact ⟨Nat.ne_of_lt (Nat.lt_succ_self _), Nat.ne_of_gt lS⟩
        have hval : ∀ (i : Nat) (v : Value), items[i]? = some v → ∃ p, ks[i]? = some p ∧ v = p.1 := fun i v hv => by
          have q : items.toList[i]? = some v := by rw [Array.getElem?_toList]; exact hv
          rw [hit, List.getElem?_map] at q
          cases hq : ks[i]? with
          | none => rw [hq] at q; cases q
          | some p => rw [hq] at q; exact ⟨p, rfl, (Option.some.inj q).symm⟩
        have none_of : ∀ b, s.heap.objs.size ≤ b → s.heap.get? b = none := fun b hb => by
          cases q : s.heap.get? b with
          | none => rfl
          | some o => exact absurd (Nat.lt_of_lt_of_le (Heap.lt_size q) hb) (Nat.lt_irrefl _)
        refine fill_set S ((Walks.list hh3 _ l neI items).toS) s.heap.objs.size
          nfp ks zks hfew hval s.heap hk (none_of _ (Nat.le_refl _)) (fun b hb => none_of b (by
            rw [List.mem_singleton.mp hb, sz1]
            exact Nat.le_succ _)) hu (items.size - 0) 0 _ (by omega) (Nat.zero_le _)
          ⟨⟨_, Heap.get?_push_size _ rfl, rfl, rfl⟩, (hl1.push _)⟩ (fun b o e => Heap.get?_push_of_some _ (Heap.get?_push_of_some _ e)) ?first ?last
        case first => exact ⟨[], S.fresh (Heap.get?_push_of_some _ hS), GotS.zero ks⟩
        case last =>
          intro s' L hm hS' g' kp
          obtain ⟨h', g2, d', tk', os'⟩ := s'
          have e1 : g2 = s.gens := hm.gens
          have e2 : d' = s.drawn := hm.drawn
          have e3 : os' = s.os := hm.os
          subst e1; subst e2; subst e3
          show wpAny _ _ _ _ _ _
          refine wpAny_pure ?_
          show wpAny _ _ (ret Value.none) _ _ _
          rw [zks] at g'
          exact wpAny_pure ⟨rfl, h', tk', L, rfl, hS', g', kp⟩

      · cases r₂ with
        | error e => exact hr₂
        | ok fl₂ =>
          cases fl₂ with
          | ret r =>
            obtain ⟨rfl, h', tk, L, rfl, hS', g', hk'⟩ := hr₂
            repeat (any_goals (first | assumption | wp_step))
            exact h _ _ _ hS' g' hk'
          | _ => exact hr₂.elim
    | _ => exact hr.elim
/-- set(xs), xs a tuple -/
theorem make_set_tuple {l : Addr} {items : Array Value} (ks : List (Value × T)) {Q : Value → Shared → Prop} (hh : A.handled = none) (hl : s.heap.IsTuple l items) (hit : items.toList = ks.map fun p => p.1)
    (hk : ∀ p ∈ ks, S.Is s.heap p.2 p.1) (hfew : Few ks) (hu : A.units + 3 < cLine)
    (h : ∀ (h' : Heap) (tk : Nat) L, S.St h' s.heap.objs.size L → GotS ks ks.length L → (∀ b o, s.heap.get? b = some o → h'.get? b = some o) → Q (.ref s.heap.objs.size) { s with heap := h', toks := tk }) :
    wpAny (model P w) A (call (.type "set") [.ref l]) Q E s := by
  have zks : items.size = ks.length := by
    have q := congrArg List.length hit
    rw [Array.length_toList, List.length_map] at q
    exact q
  obtain ⟨c, tl, hmro⟩ := F.called_set.mro
  have hmade := F.called_set.made
  have hsub := F.called_set.sub
  refine wpAny_call (codeAny_of_tree ?_)
  show wpAny _ _ (callAny (.type "set") _) _ _ _
  refine wpAny_pure ⟨Code.quiet_builtin _ (by decide +kernel), codeAny_builtin F.entry_type_call ?_⟩
  rw [Around.under_plain (weight_type_call_type "set" [.ref l] []) rfl]
  have g1 := F.called_set.notType
  have g2 := F.called_set.canCreate
  have g3 := F.typeCall_set_1 (.ref l)
  repeat (any_goals (first | assumption | wp_step))

  refine codeAny_mono (code_set_led1 (.ref l) (E := E) (Q₁ := fun obj s₁ => obj = .ref s.heap.objs.size ∧ s₁ = { s with heap := s.heap.push (freshSet w) }) ⟨rfl, rfl⟩) fun r s₁ hr => ?_
  cases r with
  | error e => exact hr
  | ok fl =>
    cases fl with
    | ret obj =>
      obtain ⟨rfl, rfl⟩ := hr
      have hS : (s.heap.push (freshSet w)).get? s.heap.objs.size = some (freshSet w) := Heap.get?_push_size _ rfl
      have hT : Shared.TypeIs { s with heap := s.heap.push (freshSet w) } (.ref s.heap.objs.size) "set" := ⟨_, hS, rfl⟩
      have g4 := F.called_set.init.lookup
      have g5 := F.called_set.init.bind (.ref s.heap.objs.size)
      repeat (any_goals (first | assumption | wp_step))

      refine codeAny_mono (codeAny_call_builtin (R := wants (fun r s₂ => r = .none ∧ ∃ h' tk L, s₂ = { s with heap := h', toks := tk } ∧ S.St h' s.heap.objs.size L ∧ GotS ks ks.length L ∧
          (∀ b o, s.heap.get? b = some o → h'.get? b = some o)) E) F.called_set.init.plain F.entry_set_init (check_set_init_1 hT ?_)) fun r₂ s₂ hr₂ => ?_
      · obtain ⟨ol, hol, hcl, nl, hdl⟩ := hl
        obtain ⟨ocls, odict, odata, oslots⟩ := ol
        simp only at hcl hdl
        subst hcl; subst hdl
        have hol' : (s.heap.push (freshSet w)).get? l = some { cls := .type "tuple", dict := odict, data := .seq items nl, slots := oslots } := Heap.get?_push_of_some _ hol
        have g6 := F.sub_tuple_set
        have g7 := F.sub_tuple_frozenset
        have g8 : (Value.type "tuple" == Value.type "dict") = false := by decide
        have hl1 : (s.heap.push (freshSet w)).IsTuple l items := ⟨_, hol', rfl, nl, rfl⟩
        unfold Builtin.«set.__init__» noKeywords Builtin.Frozenset.updateFrom
        generalize hPI : pyIter = PI
        wp_walk
        subst hPI

        refine wpAny_pyIter_tuple hl1 ?_
        refine wpAny_bind (wpAny_runValue ?_)
        have lS : l < s.heap.objs.size := Heap.lt_size hol
        have hh3 : A.in1.in1.in1.handled = none := by simp [hh]
        have sz1 : (s.heap.push (freshSet w)).objs.size = s.heap.objs.size + 1 := Heap.size_push ..
        have neI : l ≠ (s.heap.push (freshSet w)).objs.size := by rw [sz1]; exact Nat.ne_of_lt (Nat.lt_succ_of_lt lS)
        have nfp : s.heap.objs.size ∉ [(s.heap.push (freshSet w)).objs.size, l] := by
          rw [sz1]; simp only [List.mem_cons, List.mem_singleton, List.not_mem_nil, or_false, not_or]
          exact ⟨Nat.ne_of_lt (Nat.lt_succ_self _), Nat.ne_of_gt lS⟩
        have hval : ∀ (i : Nat) (v : Value), items[i]? = some v → ∃ p, ks[i]? = some p ∧ v = p.1 := fun i v hv => by
          have q : items.toList[i]? = some v := by rw [Array.getElem?_toList]; exact hv
          rw [hit, List.getElem?_map] at q
          cases hq : ks[i]? with
          | none => rw [hq] at q; cases q
          | some p => rw [hq] at q; exact ⟨p, rfl, (Option.some.inj q).symm⟩
        have none_of : ∀ b, s.heap.objs.size ≤ b → s.heap.get? b = none := fun b hb => by
          cases q : s.heap.get? b with
          | none => rfl
          | some o => exact absurd (Nat.lt_of_lt_of_le (Heap.lt_size q) hb) (Nat.lt_irrefl _)
        refine fill_set S ((Walks.tuple hh3 _ l neI items).toS) s.heap.objs.size
          nfp ks zks hfew hval s.heap hk (none_of _ (Nat.le_refl _)) (fun b hb => none_of b (by
            rw [List.mem_singleton.mp hb, sz1]
            exact Nat.le_succ _)) hu (items.size - 0) 0 _ (by omega) (Nat.zero_le _)
          ⟨⟨_, Heap.get?_push_size _ rfl, rfl, rfl⟩, (hl1.push _)⟩ (fun b o e => Heap.get?_push_of_some _ (Heap.get?_push_of_some _ e)) ?first ?last
        case first => exact ⟨[], S.fresh (Heap.get?_push_of_some _ hS), GotS.zero ks⟩
        case last =>
          intro s' L hm hS' g' kp
          obtain ⟨h', g2, d', tk', os'⟩ := s'
          have e1 : g2 = s.gens := hm.gens
          have e2 : d' = s.drawn := hm.drawn
          have e3 : os' = s.os := hm.os
          subst e1; subst e2; subst e3
          show wpAny _ _ _ _ _ _
          refine wpAny_pure ?_
          show wpAny _ _ (ret Value.none) _ _ _
          rw [zks] at g'
          exact wpAny_pure ⟨rfl, h', tk', L, rfl, hS', g', kp⟩

      · cases r₂ with
        | error e => exact hr₂
        | ok fl₂ =>
          cases fl₂ with
          | ret r =>
            obtain ⟨rfl, h', tk, L, rfl, hS', g', hk'⟩ := hr₂
            repeat (any_goals (first | assumption | wp_step))
            exact h _ _ _ hS' g' hk'
          | _ => exact hr₂.elim
    | _ => exact hr.elim
end
end PL
set_option Elab.async false
set_option linter.all false
set_option maxRecDepth 100000
set_option maxHeartbeats 1000000
/-! PS4: sorted(xs), sorted(set(xs)), len(set(xs)). -/
namespace PL
open PySem PySem.Spec PyProof.Rows L2
open PySem.W (dataLe keyToks keyToksAll AllAlike Sortable EachIs)

/-! ### orders -/
/-- sorted by Python's order -/
noncomputable def srt (ds : List D) : List D := ds.mergeSort (dataLe false id)
def sortOk (ds : List D) : Prop := AllAlike ds ∧ Sortable ds ∧ PyData.depthAll ds ≤ 60
open Classical in
noncomputable def dSorted : D → R D
  | .list ds => if sortOk ds then .ok (.list (srt ds)) else .bad
  | .tuple ds => if sortOk ds then .ok (.list (srt ds)) else .bad
  | _ => .bad
theorem srt_len (ds : List D) : (srt ds).length = ds.length := by unfold srt; rw [List.length_mergeSort]
theorem srt_perm (ds : List D) : (srt ds).Perm ds := List.mergeSort_perm _ _
theorem srt_map {β : Type} (f : β → D) (bs : List β) : srt (bs.map f) = (bs.mergeSort (dataLe false f)).map f :=
  (PySem.W.sort_maps f fun _ _ _ _ => rfl).symm
theorem depth_mem : ∀ {ds : List D} {d : D}, d ∈ ds → d.depth ≤ PyData.depthAll ds
  | [], _, h => absurd h List.not_mem_nil
  | x :: r, d, h => by
    rw [PyData.depthAll]
    rcases List.mem_cons.mp h with e | h
    · rw [e]; omega
    · have := depth_mem h; omega
theorem ImAll.mem {K : PySem.W.Frag} {H : Hp} : ∀ {xs : List V} {ds : List D}, ImAll K H xs ds → ∀ p ∈ xs.zip ds, Im K H p.1 p.2
  | _, _, .nil, p, h => absurd h (by simp)
  | _, _, .cons h1 t, p, h => by
    rcases List.mem_cons.mp (show p ∈ _ :: _ from h) with e | h
    · rw [e]; exact h1
    · exact t.mem p h
theorem ImAll.of_mem {K : PySem.W.Frag} {H : Hp} : ∀ {ps : List (V × D)}, (∀ p ∈ ps, Im K H p.1 p.2) → ImAll K H (ps.map (·.1)) (ps.map (·.2))
  | [], _ => .nil
  | p :: r, h => .cons (h p List.mem_cons_self) (ImAll.of_mem fun q hq => h q (List.mem_cons_of_mem _ hq))
theorem each_zip {K : PySem.W.Frag} {H : Hp} : ∀ {xs : List V} {vs : List Value} {ds : List D}, Vals xs vs → xs.length = ds.length → EachIs (fun v (p : V × D) => RelV p.1 v) vs (xs.zip ds)
  | _, _, [], .nil, _ => .nil
  | _, _, _ :: _, .nil, e => by simp at e
  | _, _, [], .cons _ _, e => by simp at e
  | _, _, d :: ds, .cons r t, e => .cons r (each_zip (K := K) (H := H) t (by simpa using e))
theorem vals_each : ∀ {vs : List Value} {ps : List (V × D)}, EachIs (fun v (p : V × D) => RelV p.1 v) vs ps → Vals (ps.map (·.1)) vs
  | _, _, .nil => .nil
  | _, _, .cons h t => .cons h (vals_each t)
theorem zip_snd {xs : List V} {ds : List D} (h : xs.length = ds.length) : (xs.zip ds).map (·.2) = ds := List.map_snd_zip (by omega)
theorem zip_fst {xs : List V} {ds : List D} (h : xs.length = ds.length) : (xs.zip ds).map (·.1) = xs := List.map_fst_zip (by omega)
theorem imAll_can {K : PySem.W.Frag} {H : Hp} {v : V} {d : D} (h : Im K H v d) : d.canLay0 = true := h.can
section
variable {X : Cx} {W : XK} {H0 : Hp} {κ : Kds}
theorem im_reads {pins : List (Addr × Obj)} {σ : L2.St} {H : Hp} {s : Shared} {x : V} {v : Value} {d : D} (I : Inv X pins σ H s) (h : Im X.K H x d) (r : RelV x v) : ∃ as, Reads s.heap v d as := Dp.reads I d x v h.dp r
theorem each_reads {pins : List (Addr × Obj)} {σ : L2.St} {H : Hp} {s : Shared} (I : Inv X pins σ H s) : ∀ {vs : List Value} {ps : List (V × D)}, EachIs (fun v (p : V × D) => RelV p.1 v) vs ps → (∀ p ∈ ps, Im X.K H p.1 p.2) → EachIs (fun v (p : V × D) => ∃ as, Reads s.heap v p.2 as) vs ps
  | _, _, .nil, _ => .nil
  | _, _, .cons h t, k => .cons (im_reads I (k _ List.mem_cons_self) h) (each_reads I t fun q hq => k q (List.mem_cons_of_mem _ hq))
theorem dc_sorted (hu : X.A.units + 65 < cLine) : DC1 X W (.builtin "sorted") (fun d => match d with | .list _ => dSorted d | _ => .bad) rE rN := by
  intro pins s σ H x v a Q I rx ha q
  cases a <;> try exact q.elim
  rename_i ds
  obtain ⟨l, xs, rfl, r1, i1, z1⟩ := rE_list ha
  simp only [dSorted] at q
  by_cases ok : sortOk ds
  · rw [if_pos ok] at q
    cases rx
    obtain ⟨its, rv, pl, hz⟩ := I.list (.inl r1)
    have hl := i1.length
    have e1 := each_zip (K := X.K) (H := H) rv hl
    have e2 := each_reads I e1 i1.mem
    have hs : (xs.zip ds).map (fun p => p.2) = ds := zip_snd hl
    refine PySem.W.sorted_data (bs := xs.zip ds) (enc := fun p => p.2) (R := fun v (p : V × D) => RelV p.1 v) (vs := its) pl.isList e1 e2 (by rw [hs]; exact ok.1) (by rw [hs]; exact ok.2.1) (by rw [List.length_zip]; omega)
      (fun b hb => ?_) fun out ol oe => ?_
    · have := depth_mem (ds := ds) (d := b.2) (List.of_mem_zip hb).2
      have := ok.2.2
      omega
    · have hn : H (s.heap.objs.size + 1) = none := I.hok.fresh (Nat.le_succ _)
      obtain ⟨c, hc⟩ := sortedAll_at s.heap its out.toArray
      have vo := vals_each oe
      have ez : ((xs.zip ds).mergeSort (dataLe false fun p => p.2)).map (·.2) = srt ds := by rw [← srt_map, hs]
      have I2 : Inv X pins σ (upd H (s.heap.objs.size + 1) (.lst (((xs.zip ds).mergeSort (dataLe false fun p => p.2)).map (·.1)))) { s with heap := sortedAll s.heap its out.toArray } :=
        I.laid (t' := s.toks) (fun _ _ => sortedAll_old) (Nat.le_succ _) ⟨by rw [List.length_map, List.length_mergeSort, List.length_zip]; omega, out, c, vo, hc⟩
      refine ⟨.ref (s.heap.objs.size + 1), _, I2, rfl, q _ _ (same_upd hn) ⟨_, _, rfl, rfl, hn, .lst upd_same (by rw [srt_len]; exact z1) ?_⟩⟩
      rw [← ez]
      exact ImAll.of_mem fun p hp => (i1.mem p ((List.mergeSort_perm _ _).mem_iff.mp hp)).mono (Same.pers (same_upd hn))
  · rw [if_neg ok] at q; exact q.elim
end
end PL
set_option Elab.async false
set_option linter.all false
set_option maxRecDepth 100000
set_option maxHeartbeats 1000000
/-! PS5: sorted(set(xs)), len(set(xs)). -/
namespace PL
open PySem PySem.Spec PyProof.Rows L2
open PySem.W (dataLe keyToks keyToksAll AllAlike Sortable EachIs)

open Classical in
/-- each once -/
noncomputable def uniq : List D → List D
  | [] => []
  | d :: r => if d ∈ r then uniq r else d :: uniq r
theorem mem_uniq : ∀ {ds : List D} {d : D}, d ∈ uniq ds ↔ d ∈ ds
  | [], d => Iff.rfl
  | x :: r, d => by
    unfold uniq
    split
    · rename_i h
      rw [mem_uniq, List.mem_cons]
      exact ⟨.inr, fun z => z.elim (fun e => e ▸ h) id⟩
    · rw [List.mem_cons, List.mem_cons, mem_uniq]
theorem nodup_uniq : ∀ (ds : List D), (uniq ds).Nodup
  | [] => List.nodup_nil
  | x :: r => by
    unfold uniq
    split
    · exact nodup_uniq r
    · rename_i h
      exact List.nodup_cons.mpr ⟨fun z => h (mem_uniq.mp z), nodup_uniq r⟩
theorem uniq_len : ∀ (ds : List D), (uniq ds).length ≤ ds.length
  | [] => Nat.le_refl _
  | x :: r => by
    unfold uniq
    have := uniq_len r
    split
    · rw [List.length_cons]; omega
    · rw [List.length_cons, List.length_cons]; omega
/-- a kind of members: T as data -/
structure Mem (X : Cx) (T : Type) where
  S : SLk X.prog X.w T
  enc : T → D
  inj : ∀ {a b : T}, enc a = enc b → a = b
  anti : ∀ (a b : T), dataLe false enc a b = true → dataLe false enc b a = true → a = b
  is : ∀ {pins : List (Addr × Obj)} {s : Shared} {σ : L2.St} {H : Hp} {x : V} {v : Value} {k : T}, Inv X pins σ H s → Im X.K H x (enc k) → RelV x v → S.Is s.heap k v
  /-- the value tells the hand layer's -/
  one : ∀ {pins : List (Addr × Obj)} {s : Shared} {σ : L2.St} {H : Hp} {x y : V} {v : Value} {k l : T}, Inv X pins σ H s → Im X.K H x (enc k) → RelV x v → Im X.K H y (enc l) → RelV y v → x = y
theorem perm_of_map {α β : Type} {f : α → β} : ∀ {l m : List β}, l.Perm m → ∀ {L : List α}, m = L.map f → ∃ L1 : List α, L1.Perm L ∧ l = L1.map f := by
  intro l m p
  induction p with
  | nil => intro L e; exact ⟨[], by cases L <;> simp_all, rfl⟩
  | cons x _ ih =>
    intro L e
    cases L with
    | nil => cases e
    | cons y r =>
      rw [List.map_cons] at e
      injection e with e1 e2
      obtain ⟨L1, p1, e3⟩ := ih e2
      exact ⟨y :: L1, p1.cons y, by rw [List.map_cons, ← e3, e1]⟩
  | swap x y l =>
    intro L e
    cases L with
    | nil => cases e
    | cons a r =>
      cases r with
      | nil => cases e
      | cons b r =>
        rw [List.map_cons, List.map_cons] at e
        injection e with e1 e2
        injection e2 with e2 e3
        exact ⟨b :: a :: r, List.Perm.swap a b r, by rw [List.map_cons, List.map_cons, ← e1, ← e2, ← e3]⟩
  | trans _ _ ih1 ih2 =>
    intro L e
    obtain ⟨L1, p1, e1⟩ := ih2 e
    obtain ⟨L2, p2, e2⟩ := ih1 e1
    exact ⟨L2, p2.trans p1, e2⟩
/-- things and what they stand for, one by one -/
inductive Trip (K : PySem.W.Frag) (H : Hp) {T : Type} (enc : T → D) : List V → List Value → List T → Prop
  | nil : Trip K H enc [] [] []
  | cons {x : V} {v : Value} {k : T} {xs : List V} {vs : List Value} {ks : List T} : RelV x v → Im K H x (enc k) → Trip K H enc xs vs ks → Trip K H enc (x :: xs) (v :: vs) (k :: ks)
theorem trip_of {K : PySem.W.Frag} {H : Hp} {T : Type} {enc : T → D} : ∀ {xs : List V} {vs : List Value} {ks : List T}, Vals xs vs → ImAll K H xs (ks.map enc) → Trip K H enc xs vs ks
  | _, _, [], .nil, _ => .nil
  | _, _, [], .cons _ _, h => nomatch h
  | _, _, _ :: _, .nil, h => nomatch h
  | _, _, k :: ks, .cons r t, .cons h1 h2 => .cons r h1 (trip_of t h2)
theorem Trip.get {K : PySem.W.Frag} {H : Hp} {T : Type} {enc : T → D} {xs : List V} {vs : List Value} {ks : List T} (h : Trip K H enc xs vs ks) : ∀ p ∈ vs.zip ks, ∃ x, x ∈ xs ∧ RelV x p.1 ∧ Im K H x (enc p.2) := by
  induction h with
  | nil => intro p hp; exact absurd hp (by simp)
  | cons r i _ ih =>
    intro p hp
    rcases List.mem_cons.mp (show p ∈ _ :: _ from hp) with e | hp
    · rw [e]; exact ⟨_, List.mem_cons_self, r, i⟩
    · obtain ⟨x, hx, q⟩ := ih p hp; exact ⟨x, List.mem_cons_of_mem _ hx, q⟩
theorem Trip.len {K : PySem.W.Frag} {H : Hp} {T : Type} {enc : T → D} {xs : List V} {vs : List Value} {ks : List T} (h : Trip K H enc xs vs ks) : vs.length = ks.length := by
  induction h with
  | nil => rfl
  | cons _ _ _ ih => exact congrArg (· + 1) ih
mutual
/-- what is read off lies there -/
theorem reads_there {h : Heap} : ∀ {v : Value} {d : D} {as : List Addr}, Reads h v d as → ∀ b ∈ as, ∃ o, h.get? b = some o
  | _, _, _, .none, b, hb => absurd hb List.not_mem_nil
  | _, _, _, .bool _, b, hb => absurd hb List.not_mem_nil
  | _, _, _, .int _ _, b, hb => absurd hb List.not_mem_nil
  | _, _, _, .str _ _, b, hb => absurd hb List.not_mem_nil
  | _, _, _, .list e _ _ r, b, hb => (List.mem_cons.mp hb).elim (fun z => z ▸ ⟨_, e⟩) (readsAll_there r b)
  | _, _, _, .tuple _ _ _ r, b, hb => readsAll_there r b hb
  | _, _, _, .dict e _ _ r1 r2, b, hb => (List.mem_append.mp hb).elim (fun z => (List.mem_cons.mp z).elim (fun z => z ▸ ⟨_, e⟩) (readsAll_there r1 b)) (readsAll_there r2 b)
theorem readsAll_there {h : Heap} : ∀ {vs : List Value} {ds : List D} {as : List Addr}, ReadsAll h vs ds as → ∀ b ∈ as, ∃ o, h.get? b = some o
  | _, _, _, .nil, b, hb => absurd hb List.not_mem_nil
  | _, _, _, .cons r1 r2, b, hb => (List.mem_append.mp hb).elim (reads_there r1 b) (readsAll_there r2 b)
end
section
variable {X : Cx} {T : Type} (M : Mem X T) {pins : List (Addr × Obj)} {σ : L2.St} {H : Hp} {s : Shared}
theorem mem_sort {L : List T} {ds : List D} (nd : L.Nodup) (hm : ∀ d, d ∈ L.map M.enc ↔ d ∈ ds) : (L.mergeSort (dataLe false M.enc)).map M.enc = srt (uniq ds) := by
  have nd2 : (L.map M.enc).Nodup := List.pairwise_map.mpr (nd.imp fun h e => h (M.inj e))
  have p1 : (uniq ds).Perm (L.map M.enc) := (List.perm_ext_iff_of_nodup (nodup_uniq ds) nd2).mpr fun d => mem_uniq.trans (hm d).symm
  obtain ⟨L1, p2, e⟩ := perm_of_map p1 rfl
  rw [e, srt_map]
  congr 1
  have T := PySem.W.sortLe_total (listOrd itemOrd) false fun b => keyToks (M.enc b)
  exact PySem.W.Srt.the_of_perm _ (fun x y z => T.trans x y z) (fun x y => Bool.or_eq_true_iff.mpr (T.total x y)) M.anti ((List.mergeSort_perm _ _).trans p2.symm) (PySem.W.sort_pairwise T L)
/-- sorted, of a set -/
theorem sorted_S {A : Around} {E : Value → Shared → Prop} {a : Addr} {L : List (Value × T)} {Q : Value → Shared → Prop} (R : M.S.St s.heap a L) (hh : A.handled = none) (few : L.length < 64)
    (rd : ∀ p ∈ L, ∃ as, Reads s.heap p.1 (M.enc p.2) as) (al : AllAlike (L.map fun p => M.enc p.2)) (so : Sortable (L.map fun p => M.enc p.2)) (dp : ∀ p ∈ L, A.units + 2 + (M.enc p.2).depth < cLine)
    (hQ : ∀ s' p (out : List Value) (c : Nat) (L' : List (Value × T)), (∀ b o, s.heap.get? b = some o → s'.heap.get? b = some o) → s'.gens = s.gens → s'.os = s.os → s.heap.objs.size ≤ p →
      s'.heap.get? p = some (seqObj "list" out.toArray c) → out = L'.map (fun q => q.1) → L'.Perm L → L'.map (·.2) = (L.map (·.2)).mergeSort (dataLe false M.enc) → Q (.ref p) s') :
    wpAny (model X.prog X.w) A (call (.builtin "sorted") [.ref a]) Q E s := by
  obtain ⟨o, es, ep, t, ho, hex, hd, hf, hb, hr, hl, pm0⟩ := M.S.read R
  refine Calls.call_function_entry kind_sorted plain_sorted entry_sorted (args_sorted1 _) ?_
  unfold Builtin.«sorted»
  refine wpAny_bind (m := checkCount "sorted" 1 1 _) (wpAny_pure ?_)
  refine wpAny_bind (collect_set (A := A.in1) hh ⟨o, ho, hex.1, hd⟩ hf hb hr hl fun s1 vs k1 hz g1 o1 pm => ?_)
  obtain ⟨L1, p1, e1⟩ := perm_of_map (pm.trans pm0) rfl
  have hvl : vs.length < 64 := by rw [e1, List.length_map, p1.length_eq]; exact few
  refine wpAny_bind (wpAny_newList ?_ (by rw [sizeLine_eq]; omega))
  have hoL : (s1.heap.push (seqObj "list" vs.toArray 0)).get? s1.heap.objs.size = some (seqObj "list" vs.toArray 0) := Heap.get?_push_size _ rfl
  have up : ∀ b u, s.heap.get? b = some u → (s1.heap.push (seqObj "list" vs.toArray 0)).get? b = some u := fun b u e => Heap.get?_push_of_some _ (k1 b u e)
  have inL : ∀ p ∈ L1, p ∈ L := fun p hp => p1.mem_iff.mp hp
  have dm : ∀ d, d ∈ L1.map (fun p => M.enc p.2) → d ∈ L.map fun p => M.enc p.2 := fun d h => by
    obtain ⟨p, hp, e⟩ := List.mem_map.mp h
    exact List.mem_map.mpr ⟨p, inL p hp, e⟩
  have ea : ∀ L2 : List (Value × T), EachIs (fun v (q : Value × T) => v = q.1) (L2.map fun q => q.1) L2 := fun L2 => by
    induction L2 with
    | nil => exact .nil
    | cons q r ih => exact .cons rfl ih
  have er : ∀ L2 : List (Value × T), (∀ q ∈ L2, q ∈ L) → EachIs (fun v (q : Value × T) => ∃ as, Reads (s1.heap.push (seqObj "list" vs.toArray 0)) v (M.enc q.2) as ∧ s1.heap.objs.size ∉ as) (L2.map fun q => q.1) L2 := fun L2 => by
    induction L2 with
    | nil => exact fun _ => .nil
    | cons q r ih =>
      intro hm
      obtain ⟨as, h⟩ := rd q (hm q List.mem_cons_self)
      refine .cons ⟨as, PyProof.Rows.Reads.keeps up h, fun hin => ?_⟩ (ih fun z hz => hm z (List.mem_cons_of_mem _ hz))
      obtain ⟨o, e⟩ := reads_there h _ hin
      exact absurd hz (Nat.not_le_of_lt (Heap.lt_size e))
  refine wpAny_bind (wpAny_holding (PySem.W.list_sort_data (s := { s1 with heap := s1.heap.push (seqObj "list" vs.toArray 0) }) (R := fun v (q : Value × T) => v = q.1) (bs := L1) (enc := fun q => M.enc q.2) hoL (by rw [e1]; exact ea L1) (by rw [e1] at *; exact er L1 inL)
    (fun d hd d' hd' => al d (dm d hd) d' (dm d' hd')) (so.elim (fun h => .inl fun d hd => h d (dm d hd)) fun h => .inr fun d hd => h d (dm d hd)) (by rw [p1.length_eq, sizeLine_eq]; omega) (fun b hb => by have := dp b (inL b hb); show A.units + 1 + 1 + _ < _; omega) fun out ol oe => ?_))
  obtain ⟨c, hc⟩ := sortedHeap_at (vs := vs) (out := out.toArray) hoL
  have eo : out = (L1.mergeSort (dataLe false fun q => M.enc q.2)).map (fun q => q.1) := by
    have key : ∀ {out : List Value} {L2 : List (Value × T)}, EachIs (fun v (q : Value × T) => v = q.1) out L2 → out = L2.map fun q => q.1 := by
      intro out L2 h
      induction h with
      | nil => rfl
      | cons h _ ih => rw [List.map_cons, ← ih, h]
    exact key oe
  refine wpAny_pure ⟨_, rfl, hQ _ s1.heap.objs.size out c _ (fun b u e => ?_) g1 o1 hz hc eo ((List.mergeSort_perm _ _).trans p1) ?_⟩
  · have q := k1 b u e
    have hlt := Heap.lt_size q
    show (sortedHeap (s1.heap.push (seqObj "list" vs.toArray 0)) s1.heap.objs.size vs out.toArray).get? b = some u
    rw [sortedHeap_old (Nat.ne_of_lt hlt) (by rw [size_push']; exact Nat.lt_succ_of_lt hlt)]
    exact Heap.get?_push_of_some _ q
  · have e2 : (L1.mergeSort (dataLe false fun q => M.enc q.2)).map (fun q => q.2) = (L1.map fun q => q.2).mergeSort (dataLe false M.enc) := PySem.W.sort_maps (fun q : Value × T => q.2) fun _ _ _ _ => rfl
    rw [e2]
    have T := PySem.W.sortLe_total (listOrd itemOrd) false fun b => keyToks (M.enc b)
    exact PySem.W.Srt.the_of_perm _ (fun x y z => T.trans x y z) (fun x y => Bool.or_eq_true_iff.mpr (T.total x y)) M.anti ((List.mergeSort_perm _ _).trans (p1.map _)) (PySem.W.sort_pairwise T _)
end
end PL
set_option Elab.async false
set_option linter.all false
set_option maxRecDepth 100000
set_option maxHeartbeats 1000000
/-! PS6: sorted(set(xs)), len(set(xs)): the rules. -/
namespace PL
open PySem PySem.Spec PyProof.Rows L2
open PySem.W (dataLe keyToks keyToksAll AllAlike Sortable EachIs)

theorem str_le_anti {a b : Str} (h1 : a.cps.toList ≤ b.cps.toList) (h2 : b.cps.toList ≤ a.cps.toList) : a = b := PySem.W.str_of_cps (List.le_antisymm h1 h2)
def memTx (X : Cx) : Mem X Str where
  S := slTx X.prog X.w
  enc := .str
  inj h := by cases h; rfl
  anti a b h1 h2 := by
    have e : dataLe false (fun b : Str => PyData.str b) = fun a b => decide (a.cps.toList ≤ b.cps.toList) := PySem.W.dataLe_str id
    rw [e] at h1 h2
    exact str_le_anti (of_decide_eq_true h1) (of_decide_eq_true h2)
  is _ h r := by
    cases h
    exact r
  one _ h1 r1 h2 r2 := by
    cases h1; cases h2
    obtain ⟨t, e1⟩ := r1
    obtain ⟨u, e2⟩ := r2
    rw [e1] at e2
    injection e2 with e2
    rw [e2]
theorem keys_toks : ∀ {a b : List Key}, keyToksAll (a.map keyD) = keyToksAll (b.map keyD) → a = b
  | [], [], _ => rfl
  | [], k :: b, h => by
    rw [List.map_nil, List.map_cons, keyToksAll, keyToksAll] at h
    injection h with h _
    injection h with h
    exact absurd h (by decide)
  | k :: a, [], h => by
    rw [List.map_nil, List.map_cons, keyToksAll, keyToksAll] at h
    injection h with h _
    injection h with h
    exact absurd h (by decide)
  | k :: a, l :: b, h => by
    rw [List.map_cons, List.map_cons, keyToksAll, keyToksAll] at h
    injection h with _ h
    have one : ∀ k : Key, ∃ q : Int ⊕ List Nat, keyToks (keyD k) = [q] ∧ q = match k with | .inl i => .inl i | .inr x => .inr x.cps.toList := fun k => by
      cases k with
      | inl i => exact ⟨_, by simp [keyD, keyToks], rfl⟩
      | inr x => exact ⟨_, by simp [keyD, keyToks], rfl⟩
    obtain ⟨p, e1, p1⟩ := one k
    obtain ⟨q, e2, q1⟩ := one l
    rw [e1, e2] at h
    injection h with h h2
    rw [keys_toks h2]
    have : k = l := by
      rw [p1, q1] at h
      cases k <;> cases l
      · injection h with h; rw [h]
      · cases h
      · cases h
      · injection h with h; rw [PySem.W.str_of_cps h]
    rw [this]
theorem imAll_keys {K : PySem.W.Frag} {H : Hp} : ∀ {xs : List V} {ks : List Key}, ImAll K H xs (ks.map keyD) → xs = ks.map kV
  | _, [], h => by cases h; rfl
  | _, k :: ks, h => by
    rw [List.map_cons] at h
    cases h with
    | cons h t =>
      rw [imAll_keys t, List.map_cons]
      cases k with
      | inl i => cases h; rfl
      | inr x => cases h; rfl
def memTu (X : Cx) : Mem X (List Key) where
  S := slTu X.prog X.w
  enc ks := .tuple (ks.map keyD)
  inj {a b} h := by
    injection h with h
    have := congrArg keyToksAll h
    exact keys_toks this
  anti a b h1 h2 := by
    have e1 : lexLt itemOrd (keyToksAll (b.map keyD)) (keyToksAll (a.map keyD)) = false := by
      have : (!PySem.W.dataLt (.tuple (b.map keyD)) (.tuple (a.map keyD))) = true := h1
      rw [PySem.W.dataLt_tuple] at this
      simpa using this
    have e2 : lexLt itemOrd (keyToksAll (a.map keyD)) (keyToksAll (b.map keyD)) = false := by
      have : (!PySem.W.dataLt (.tuple (a.map keyD)) (.tuple (b.map keyD))) = true := h2
      rw [PySem.W.dataLt_tuple] at this
      simpa using this
    exact keys_toks ((listOrd itemOrd).total _ _ e2 e1)
  is {pins s σ H x v k} I h r := by
    obtain ⟨a, xs, rfl, h, i, z⟩ := im_tupK h
    have e := imAll_keys i
    subst e
    cases r
    exact ⟨a, rfl, key_of I.hok h⟩
  one _ h1 r1 h2 r2 := by
    obtain ⟨a1, x1, rfl, _, _, _⟩ := im_tupK h1
    obtain ⟨a2, x2, rfl, _, _, _⟩ := im_tupK h2
    cases r1; cases r2
    rfl
/-- texts alone, or tuples of keys alone -/
def allTx (ds : List D) : Prop := ∃ ks : List Str, ds = ks.map .str
def allTu (ds : List D) : Prop := ∃ ks : List (List Key), ds = ks.map fun k => .tuple (k.map keyD)
open Classical in
def setOk (ds : List D) : Prop := (ds.length < 64 ∨ (uniq ds).length < 63) ∧ (allTx ds ∨ allTu ds)
open Classical in
noncomputable def dSortedSet : D → R D
  | .list ds => if setOk ds ∧ sortOk ds then .ok (.list (srt (uniq ds))) else .bad
  | .tuple ds => if setOk ds ∧ sortOk ds then .ok (.list (srt (uniq ds))) else .bad
  | _ => .bad
open Classical in
noncomputable def dLenSet : D → R D
  | .list ds => if setOk ds then .ok (.int (uniq ds).length) else .bad
  | .tuple ds => if setOk ds then .ok (.int (uniq ds).length) else .bad
  | _ => .bad
section
variable {X : Cx} {T : Type} (M : Mem X T) {W : XK} {H0 : Hp} {κ : Kds}
theorem nodup_sub {α : Type} {xs ys : List α} (h : xs.Nodup) (s : ∀ x, x ∈ xs → x ∈ ys) : xs.length ≤ ys.length := by
  classical
  induction xs generalizing ys with
  | nil => exact Nat.zero_le _
  | cons x r ih =>
    obtain ⟨h1, h2⟩ := List.nodup_cons.mp h
    have hx := s x List.mem_cons_self
    have := ih (ys := ys.erase x) h2 fun y hy => (List.mem_erase_of_ne (fun e : y = x => h1 (by rw [← e]; exact hy))).mpr (s y (List.mem_cons_of_mem _ hy))
    rw [List.length_erase_of_mem hx] at this
    have := List.length_pos_of_mem hx
    rw [List.length_cons]
    omega
theorem few_uniq {ks : List T} {L : List (Value × T)} (nd : (L.map (·.2)).Nodup) (h : ∀ p ∈ L, p.2 ∈ ks) : L.length ≤ (uniq (ks.map M.enc)).length := by
  have nd2 : ((L.map (·.2)).map M.enc).Nodup := List.pairwise_map.mpr (List.Pairwise.imp (fun {a b} hab e => hab (M.inj e)) nd)
  have := nodup_sub (ys := uniq (ks.map M.enc)) nd2 fun x hx => mem_uniq.mpr (by
    obtain ⟨y, hy, rfl⟩ := List.mem_map.mp hx
    obtain ⟨p, hp, rfl⟩ := List.mem_map.mp hy
    exact List.mem_map.mpr ⟨p.2, h p hp, rfl⟩)
  simpa using this
/-- what is known of a new set -/
theorem set_of_list {pins : List (Addr × Obj)} {σ : L2.St} {H : Hp} {s : Shared} {l : Addr} {xs : List V} {ks : List T} {E : Value → Shared → Prop} {Q : Value → Shared → Prop} (hc : X.calm = true) (hu : X.A.units + 65 < cLine) (I : Inv X pins σ H s) (hq : SqL X.K H l xs ∨ SqT X.K H l xs)
    (i1 : ImAll X.K H xs (ks.map M.enc)) (few : ks.length < 64 ∨ (uniq (ks.map M.enc)).length < 63)
    (h : ∀ (h' : Heap) (tk : Nat) (D : Addr) (L : List (Value × T)), (∀ b o, s.heap.get? b = some o → h'.get? b = some o) → M.S.St h' D L → L.length < 64 → (∀ d, d ∈ L.map (fun p => M.enc p.2) ↔ d ∈ ks.map M.enc) →
      (∀ p ∈ L, ∃ x, RelV x p.1 ∧ Im X.K H x (M.enc p.2)) → Inv X pins σ H { s with heap := h', toks := tk } → Q (.ref D) { s with heap := h', toks := tk }) :
    wpAny (model X.prog X.w) X.A (call (.type "set") [.ref l]) Q E s := by
  have fin : ∀ (its : List Value), Vals xs its → ∀ (h' : Heap) (tk : Nat) (L : List (Value × T)), M.S.St h' s.heap.objs.size L → GotS (its.zip ks) (its.zip ks).length L → (∀ b o, s.heap.get? b = some o → h'.get? b = some o) → Q (.ref s.heap.objs.size) { s with heap := h', toks := tk } := fun its rv h' tk L R g k => by
    have tr := trip_of rv i1
    have gt := g.all
    rw [List.take_length] at gt
    have sub : ∀ p ∈ L, p ∈ its.zip ks := fun p hp => List.mem_of_mem_take (g.sub p hp)
    have lz : (its.zip ks).map (·.2) = ks := List.map_snd_zip (by rw [tr.len]; exact Nat.le_refl _)
    have sub2 : ∀ p ∈ L, p.2 ∈ ks := fun p hp => (List.of_mem_zip (sub p hp)).2
    have l64 : L.length < 64 := by
      rcases few with few | few
      · exact Nat.lt_of_le_of_lt g.len (by rw [List.length_zip]; omega)
      · have := few_uniq M (M.S.nd R) sub2; omega
    refine h h' tk _ L k R l64 (fun d => ⟨fun hd => ?_, fun hd => ?_⟩) (fun p hp => ?_) (I.kept k)
    · obtain ⟨p, hp, rfl⟩ := List.mem_map.mp hd
      exact List.mem_map.mpr ⟨p.2, (List.of_mem_zip (sub p hp)).2, rfl⟩
    · obtain ⟨q, hq, rfl⟩ := List.mem_map.mp hd
      rw [← lz] at hq
      obtain ⟨p, hp, rfl⟩ := List.mem_map.mp hq
      obtain ⟨r, hr, e⟩ := List.mem_map.mp (gt p hp)
      exact List.mem_map.mpr ⟨r, hr, by rw [e]⟩
    · obtain ⟨x, _, r, i⟩ := tr.get p (sub p hp)
      exact ⟨x, r, i⟩
  have isk : ∀ {its : List Value}, Vals xs its → ∀ p ∈ its.zip ks, M.S.Is s.heap p.2 p.1 := fun rv p hp => by
    obtain ⟨x, _, r, i⟩ := (trip_of rv i1).get p hp
    exact M.is I i r
  have zf : ∀ {its : List Value}, Vals xs its → its = (its.zip ks).map fun p => p.1 := fun rv => (List.map_fst_zip (by rw [(trip_of rv i1).len]; exact Nat.le_refl _)).symm
  have fw : ∀ {its : List Value}, Few (its.zip ks) := fun {its} L nd sb hl => by
    rcases few with few | few
    · rw [List.length_zip] at hl; omega
    · have := few_uniq M nd fun p hp => (List.of_mem_zip (sb p hp)).2
      omega
  rcases hq with hq | hq
  · obtain ⟨its, rv, pl, hz⟩ := I.list hq
    exact make_set_list M.S (its.zip ks) (I.ok.hd hc) pl.isList (by simpa using zf rv) (isk rv) fw (by omega) fun h' tk L R g k => fin its rv h' tk L R g k
  · obtain ⟨its, rv, pl, hz⟩ := I.tuple hq
    exact make_set_tuple M.S (its.zip ks) (I.ok.hd hc) pl (by simpa using zf rv) (isk rv) fw (by omega) fun h' tk L R g k => fin its rv h' tk L R g k
/-- a V for each member -/
theorem pick_vs {K : PySem.W.Frag} {H : Hp} : ∀ {L : List (Value × T)}, (∀ p ∈ L, ∃ x, RelV x p.1 ∧ Im K H x (M.enc p.2)) → ∃ xs : List V, Vals xs (L.map fun p => p.1) ∧ ImAll K H xs ((L.map fun p => p.2).map M.enc)
  | [], _ => ⟨[], .nil, .nil⟩
  | p :: r, h => by
    obtain ⟨x, r1, i1⟩ := h p List.mem_cons_self
    obtain ⟨xs, r2, i2⟩ := pick_vs fun q hq => h q (List.mem_cons_of_mem _ hq)
    exact ⟨x :: xs, .cons r1 r2, .cons i1 i2⟩
/-- sorted of such -/
theorem sorted_new {pins : List (Addr × Obj)} {σ : L2.St} {H : Hp} {s : Shared} {D : Addr} {L : List (Value × T)} {ds : List PyData} {mg : Str → Option Value} {Q : VK} (hc : X.calm = true) (hu : X.A.units + 65 < cLine) (I : Inv X pins σ H s) (R : M.S.St s.heap D L) (few : L.length < 64)
    (same : ∀ d, d ∈ L.map (fun p => M.enc p.2) ↔ d ∈ ds) (vs : ∀ p ∈ L, ∃ x, RelV x p.1 ∧ Im X.K H x (M.enc p.2)) (ok : sortOk ds) (q : Post X.K mg W rN H Q (.ok (.list (srt (uniq ds))))) :
    wpAny (model X.prog X.w) X.A (call (.builtin "sorted") [.ref D]) (EP X pins σ Q) X.xe s := by
  refine sorted_S M R (I.ok.hd hc) few (fun p hp => ?_) (fun d hd d' hd' => ok.1 d ((same d).mp hd) d' ((same d').mp hd')) (ok.2.1.elim (fun h => .inl fun d hd => h d ((same d).mp hd)) fun h => .inr fun d hd => h d ((same d).mp hd)) (fun p hp => ?_) fun s' p out c L' k g o hz hg eo pm es => ?_
  · obtain ⟨x, r, i⟩ := vs p hp
    exact im_reads I i r
  · have := depth_mem ((same _).mp (List.mem_map.mpr ⟨p, hp, rfl⟩))
    have := ok.2.2
    omega
  · obtain ⟨xs, r1, i1⟩ := pick_vs M (L := L') fun p hp => vs p (pm.mem_iff.mp hp)
    have hn : H p = none := I.hok.fresh hz
    have e : (L'.map fun p => p.2).map M.enc = srt (uniq ds) := by
      rw [es]
      exact mem_sort M (M.S.nd R) (by simpa [List.map_map, Function.comp] using same)
    rw [e] at i1
    have l1 := i1.length
    have z : (srt (uniq ds)).length ≤ sizeLine := by
      rw [← e, List.length_map, List.length_map, pm.length_eq, sizeLine_eq]; omega
    have J : Inv X pins σ (upd H p (.lst xs)) s' := I.call' (ch := []) o (Un.laid k hz hn) (I.hok.laid k hz ⟨by omega, out, c, by rw [eo]; exact r1, hg⟩) (by rw [g]; exact I.bare) (fun _ z => nomatch z)
    exact ⟨.ref p, _, J, rfl, q _ _ (same_upd hn) ⟨p, _, rfl, rfl, hn, .lst upd_same z (i1.mono (Same.pers (same_upd hn)))⟩⟩
theorem rE_sq {K : PySem.W.Frag} {H H' : Hp} {x : V} {d : D} {ds : List D} (h : rE K H H' x d) (hd : d = .list ds ∨ d = .tuple ds) : ∃ l xs, x = .ref l ∧ (SqL K H' l xs ∨ SqT K H' l xs) ∧ ImAll K H' xs ds := by
  rcases hd with e | e
  · subst e
    obtain ⟨l, xs, e, r1, i1, z1⟩ := rE_list h
    exact ⟨l, xs, e, .inl (.inl r1), i1⟩
  · subst e
    obtain ⟨l, xs, e, r1, i1, z1⟩ := rE_tup h
    exact ⟨l, xs, e, .inr r1, i1⟩
theorem post_sset {mg : Str → Option Value} {H : Hp} {Q : VK} {d : D} (h : Post X.K mg W rN H Q (dSortedSet d)) : ∃ ds, (d = .list ds ∨ d = .tuple ds) ∧ setOk ds ∧ sortOk ds ∧ Post X.K mg W rN H Q (.ok (.list (srt (uniq ds)))) := by
  cases d <;> try exact h.elim
  all_goals
    rename_i ds
    simp only [dSortedSet] at h
    by_cases c : setOk ds ∧ sortOk ds
    · rw [if_pos c] at h
      exact ⟨ds, by first | exact .inl rfl | exact .inr rfl, c.1, c.2, h⟩
    · rw [if_neg c] at h; exact h.elim
theorem de_sortedSet {a : Expr} {fa : Env → R D} {p p2 q pos : Pos} (hu : X.A.units + 65 < cLine) (hc : X.calm = true) (hg : Gl X "sorted") (hm : X.mg "sorted" = none) (hg2 : Gl X "set") (hm2 : X.mg "set" = none) (ha : DE X H0 W κ rE a fa)
    (na : starEach [a] X.env = (false, eval a X.env) :: starEach [] X.env := by rfl) : DE X H0 W κ rN (.Call (.Name "sorted" p) [.Call (.Name "set" p2) [a] [] q] [] pos) (f1 dSortedSet fa) :=
  ⟨⟨fun pins s σ H Q I ⟨τ, r, z⟩ => by
    refine Call_ (ld_blt I hg hm (Q := fun v s1 => _) PyProof.Rows.boot_sorted ?_)
    refine PyProof.Rows.callWith_builtin1 (PyProof.Rows.args_cons ?_ rfl) rfl rfl
    refine Call_ (ld_blt I hg2 hm2 PyProof.Rows.boot_set ?_)
    refine PyProof.Rows.callWith_type1 (PyProof.Rows.args_cons (thn (ha.pe.run pins s σ H _ I ⟨τ, r, PostA.imp (PostA.bind z) fun d pd x H1 s1 hx => (⟨d, hx, pd, s1⟩ : ∃ d, rE X.K H H1 x d ∧ Post X.K X.mg W rN H Q (dSortedSet d) ∧ Same H H1)⟩) fun v s1 ⟨x, H1, I1, r1, q1⟩ => PyProof.Rows.args_nil ?_) na) na rfl
    obtain ⟨d, hx, pd, sm⟩ := q1
    obtain ⟨ds, hd, ok1, ok2, pd⟩ := post_sset pd
    obtain ⟨l, xs, rfl, sq, i1⟩ := rE_sq hx hd
    cases r1
    have pd1 := Post.to good_N pd sm
    obtain ⟨few, ⟨ks, e⟩ | ⟨ks, e⟩⟩ := ok1
    · subst e
      exact set_of_list (memTx X) (ks := ks) hc hu I1 sq i1 (by rw [List.length_map] at few; exact few) fun h' tk D L k R fw same vs J => PyProof.Rows.args_nil (sorted_new (memTx X) hc hu J R fw same vs ok2 pd1)
    · subst e
      exact set_of_list (memTu X) (ks := ks) hc hu I1 sq i1 (by rw [List.length_map] at few; exact few) fun h' tk D L k R fw same vs J => PyProof.Rows.args_nil (sorted_new (memTu X) hc hu J R fw same vs ok2 pd1)⟩⟩
theorem post_lset {mg : Str → Option Value} {H : Hp} {Q : VK} {d : D} (h : Post X.K mg W rI H Q (dLenSet d)) : ∃ ds, (d = .list ds ∨ d = .tuple ds) ∧ setOk ds ∧ Post X.K mg W rI H Q (.ok (.int (uniq ds).length)) := by
  cases d <;> try exact h.elim
  all_goals
    rename_i ds
    simp only [dLenSet] at h
    by_cases c : setOk ds
    · rw [if_pos c] at h
      exact ⟨ds, by first | exact .inl rfl | exact .inr rfl, c, h⟩
    · rw [if_neg c] at h; exact h.elim
theorem len_new {pins : List (Addr × Obj)} {σ : L2.St} {H : Hp} {s : Shared} {D : Addr} {L : List (Value × T)} {ds : List PyData} {mg : Str → Option Value} {Q : VK} (I : Inv X pins σ H s) (R : M.S.St s.heap D L) (few : L.length < 64)
    (same : ∀ d, d ∈ L.map (fun p => M.enc p.2) ↔ d ∈ ds) (q : Post X.K mg W rI H Q (.ok (.int (uniq ds).length))) :
    wpAny (model X.prog X.w) X.A (call (.builtin "len") [.ref D]) (EP X pins σ Q) X.xe s := by
  obtain ⟨o, es, ep, t, ho, hex, hd, hf, hb, hr, hl, pm0⟩ := M.S.read R
  have nd2 : (L.map fun p => M.enc p.2).Nodup := by
    have := M.S.nd R
    have h2 : ((L.map (·.2)).map M.enc).Nodup := List.pairwise_map.mpr (this.imp fun h e => h (M.inj e))
    rw [List.map_map] at h2
    exact h2
  have p1 : (uniq ds).Perm (L.map fun p => M.enc p.2) := (List.perm_ext_iff_of_nodup (nodup_uniq ds) nd2).mpr fun d => mem_uniq.trans (same d).symm
  have e1 : es.size = (uniq ds).length := by
    have := pm0.length_eq
    rw [List.length_map, List.length_map, Array.length_toList] at this
    rw [p1.length_eq, List.length_map, this]
  have e2 : es.size = L.length := by
    have := pm0.length_eq
    rw [List.length_map, List.length_map, Array.length_toList] at this
    exact this
  refine call_len_set ho hex hd hf (by rw [e2]; omega) ⟨.int (uniq ds).length, H, I.tok _, ⟨_, by rw [e1]⟩, q _ H (Same.refl H) (.int _)⟩
theorem de_lenSet {a : Expr} {fa : Env → R D} {p p2 q pos : Pos} (hu : X.A.units + 65 < cLine) (hc : X.calm = true) (hg : Gl X "len") (hm : X.mg "len" = none) (hg2 : Gl X "set") (hm2 : X.mg "set" = none) (ha : DE X H0 W κ rE a fa)
    (na : starEach [a] X.env = (false, eval a X.env) :: starEach [] X.env := by rfl) : DE X H0 W κ rI (.Call (.Name "len" p) [.Call (.Name "set" p2) [a] [] q] [] pos) (f1 dLenSet fa) :=
  ⟨⟨fun pins s σ H Q I ⟨τ, r, z⟩ => by
    refine Call_ (ld_blt I hg hm (Q := fun v s1 => _) PySem.boot_len ?_)
    refine PyProof.Rows.callWith_builtin1 (PyProof.Rows.args_cons ?_ rfl) rfl rfl
    refine Call_ (ld_blt I hg2 hm2 PyProof.Rows.boot_set ?_)
    refine PyProof.Rows.callWith_type1 (PyProof.Rows.args_cons (thn (ha.pe.run pins s σ H _ I ⟨τ, r, PostA.imp (PostA.bind z) fun d pd x H1 s1 hx => (⟨d, hx, pd, s1⟩ : ∃ d, rE X.K H H1 x d ∧ Post X.K X.mg W rI H Q (dLenSet d) ∧ Same H H1)⟩) fun v s1 ⟨x, H1, I1, r1, q1⟩ => PyProof.Rows.args_nil ?_) na) na rfl
    obtain ⟨d, hx, pd, sm⟩ := q1
    obtain ⟨ds, hd, ok1, pd⟩ := post_lset pd
    obtain ⟨l, xs, rfl, sq, i1⟩ := rE_sq hx hd
    cases r1
    have pd1 := Post.to good_I pd sm
    obtain ⟨few, ⟨ks, e⟩ | ⟨ks, e⟩⟩ := ok1
    · subst e
      exact set_of_list (memTx X) (ks := ks) hc hu I1 sq i1 (by rw [List.length_map] at few; exact few) fun h' tk D L k R fw same vs J => PyProof.Rows.args_nil (len_new (memTx X) J R fw same pd1)
    · subst e
      exact set_of_list (memTu X) (ks := ks) hc hu I1 sq i1 (by rw [List.length_map] at few; exact few) fun h' tk D L k R fw same vs J => PyProof.Rows.args_nil (len_new (memTu X) J R fw same pd1)⟩⟩
end
end PL
set_option Elab.async false
set_option linter.all false
set_option maxRecDepth 100000
set_option maxHeartbeats 1000000
/-! PL13: constants of the text; several stores at once; dicts. -/
namespace PL
open PySem PySem.Spec PyProof.Rows L2

/-! ### constants, own errors -/
structure TupC (K : PySem.W.Frag) (mg : Str → Option Value) (x : Str) (ys : List Str) : Prop where
  ex : ∃ (p : Addr) (o : Obj) (its : Array Value) (n : Nat), mg x = some (.ref p) ∧ K.lookup p = some o ∧ o.cls = .type "tuple" ∧ o.data = .seq its n ∧ its.size ≤ sizeLine ∧ Vals (ys.map V.str) its.toList
structure ExcC (K : PySem.W.Frag) (mg : Str → Option Value) (x : Str) : Prop where
  ex : ∃ (C : Addr) (bmB : List Value) (B newId initId : String), ExcBaseFacts B newId initId bmB ∧ PySem.W.excIn K C bmB newId = true ∧ mg x = some (.ref C) ∧ PySem.W.keepIn K (.ref C) = true
section
variable {X : Cx} {H0 : Hp} {W : XK} {κ κ1 κ2 : Kds} {ρ ρr : Res} {e a b c : Expr} {f fa fb fc g0 : Env → R D} {g : Env → R Out} {pos p pt : Pos} {i j l : Nat} {x y z : Str} {st : Stmt}
theorem de_glIntC {q : Int} (h : ∃ t, X.mg x = some (.int q t)) (hg : Gl X x) (hd : (x == ("__debug__" : Str)) = false := by decide) : DE X H0 W κ rI (.Name x pos) (fC (.int q)) := by
  obtain ⟨t, e⟩ := h
  exact de_glInt hg e hd
theorem de_glStrC {q : Str} (h : ∃ t, X.mg x = some (.str q t)) (hg : Gl X x) (ho : sOk q = true := by decide +kernel) (hd : (x == ("__debug__" : Str)) = false := by decide) : DE X H0 W κ rI (.Name x pos) (fC (.str q)) := by
  obtain ⟨t, e⟩ := h
  exact de_glStr hg e ho hd
theorem imAll_strs {K : PySem.W.Frag} {H : Hp} : ∀ {ys : List Str}, ys.all sOk = true → ImAll K H (ys.map V.str) (ys.map PyData.str)
  | [], _ => .nil
  | y :: ys, h => by
    rw [List.all_cons, Bool.and_eq_true] at h
    exact .cons (.str y h.1) (imAll_strs h.2)
theorem de_glTupC {ys : List Str} (h : TupC X.K X.mg x ys) (hg : Gl X x) (ho : ys.all sOk = true := by decide +kernel) (hl : ys.length ≤ 1000 := by decide) (hd : (x == ("__debug__" : Str)) = false := by decide) : DE X H0 W κ rP (.Name x pos) (fC (.tuple (ys.map PyData.str))) := by
  obtain ⟨p, o, its, n, e, h1, h2, h3, h4, h5⟩ := h.ex
  exact de_glTup hg e h1 h2 h3 h4 h5 (fun H => imAll_strs ho) (by rw [List.length_map]; exact Nat.le_of_lt (small1000 hl)) hd

/-! ### an own list is kept from its store on -/
theorem Rep.lockAt {K : PySem.W.Frag} {H : Hp} {σ : L2.St} {τ : Env} (r : Rep K H0 H κ σ τ) (k : Kd) (h : ∀ d, τ[i]? ≠ some (some d)) : Rep K H0 H (κ.set i k) σ τ := by
  have q := r.forget i k
  have e2 : τ.set i none = τ := by
    apply List.ext_getElem?
    intro j
    by_cases hj : i = j
    · subst hj
      by_cases hl : i < τ.length
      · rw [List.getElem?_set_self hl]
        cases e : τ[i]? with
        | none => rw [List.getElem?_eq_none_iff] at e; omega
        | some o =>
          cases o with
          | none => rfl
          | some d => exact absurd e (h d)
      · rw [List.getElem?_eq_none (by simpa using hl), List.getElem?_eq_none (by omega)]
    · rw [List.getElem?_set_ne hj]
  rw [e2] at q
  exact q
theorem ds_lock (h : DS X H0 W ρr κ st (sSet i f) κ1) (hk : kd κ1 i = .own) (hi : i < κ1.length) (hl : ∀ τ d, f τ = .ok d → ∃ xs, d = .list xs) : DS X H0 W ρr κ st (sSet i f) (κ1.set i .imm) :=
  ⟨⟨fun pins s σ H D I ⟨τ, r, q⟩ => by
    refine thn (h.ps.run pins s σ H { D with nx := fun σ' H' => ∃ τ', sSet i f τ = .ok (.nx τ') ∧ Pers H H' ∧ Rep X.K H0 H' κ1 σ' τ' } I ⟨τ, r, PostA.imp' q fun o eo qo => ?_⟩) fun fl s1 q1 => ?_
    · cases o with
      | nx τ' => exact fun σ' H' p r' => ⟨τ', eo, p, r'⟩
      | rt d => exact qo
    · cases fl with
      | next =>
        obtain ⟨σ', H', I', τ', e, p, r'⟩ := q1
        rw [e] at q
        obtain ⟨d, e1, e2⟩ := bind_ok' e
        obtain ⟨xs, rfl⟩ := hl τ d e1
        by_cases hz : i < τ.length
        · have e3 : τ'[i]? = some (some (.list xs)) := by
            cases e2
            rw [List.getElem?_set_self hz]
          obtain ⟨a, h1, h2, h3⟩ := r'.own i _ e3 hk
          cases h3 with
          | @lst xs' _ h3 z hh =>
            obtain ⟨o, I2⟩ := I'.lock h3 trivial
            have pu : Pers H' (upd H' a (.frz o (.lst xs'))) := pers_upd (by rw [h3]; trivial)
            exact ⟨σ', _, I2, q σ' _ (p.trans pu) (r'.keepL hk hi e3 h1 h3 hh z h2)⟩
        · have e3 : τ' = τ := by
            cases e2
            exact List.set_eq_of_length_le (by omega)
          refine ⟨σ', H', I', q σ' H' p (r'.lockAt .imm fun d => ?_)⟩
          rw [e3, List.getElem?_eq_none (by omega)]
          exact nofun
      | brk => exact q1
      | cont => exact q1
      | ret u => exact q1⟩⟩
theorem lc_list {vs : List Nat} {it : Env → R (List D)} {b : D → Env → R Env} {c : Env → R Bool} {e : Env → R D} : ∀ τ d, fLc vs it b c e τ = .ok d → ∃ xs, d = .list xs := fun τ d h => by
  obtain ⟨_, _, h⟩ := bind_ok' h
  obtain ⟨ys, _, h⟩ := bind_ok' h
  cases h
  exact ⟨ys, rfl⟩
/-- x = [..] on one line, kept -/
theorem set_lc {vs : List Nat} {it : Env → R (List D)} {b : D → Env → R Env} {c : Env → R Bool} {e : Env → R D} (h : ∃ te, PS X st (tAsg te (gName i)) ∧ ∀ σ H Q, tD X.K X.mg H0 W κ rN (fLc vs it b c e) σ H Q → te σ H Q) (hk : i < κ.length) :
    DS X H0 W ρr κ st (sSet i (fLc vs it b c e)) (κ.set i .imm) := by
  have q := ds_lock (ρr := ρr) (setN_of h hk) (by rw [kd_set hk, if_pos rfl]) (by rw [List.length_set]; exact hk) lc_list
  rw [List.set_set] at q
  exact q

/-! ### several stores at once -/
/-- an own one, new -/
def rL : Res := fun K H H' v d => ∃ a, v = .ref a ∧ H a = none ∧ Own K H' a d
theorem le_NL : Res.Le rN rL := ⟨fun _ _ _ _ _ ⟨a, _, e, _, n, o⟩ => ⟨a, e, n, o⟩⟩
theorem le_ML : Res.Le rM rL := ⟨fun _ _ _ _ _ ⟨a, _, e, _, n, o⟩ => ⟨a, e, n, o⟩⟩
def rK : Kd → Res
  | .imm => rI
  | .own => rL
  | .dct => rF
theorem Rep.setK {K : PySem.W.Frag} {Hb H : Hp} {σ : L2.St} {τ : Env} (k : Kd) (r : Rep K H0 Hb κ σ τ) (p : Same Hb H) {v : V} {d : D} (hk : i < κ.length) (h : rK k K Hb H v d) : Rep K H0 H (κ.set i k) (σ.set i (some v)) (τ.set i (some d)) := by
  cases k with
  | imm => exact (r.to p).setI hk h
  | dct => exact (r.to p).setF hk h
  | own =>
    obtain ⟨a, rfl, n, o⟩ := h
    exact r.setN p hk n o
theorem rK_mono {K : PySem.W.Frag} {H H1 H2 : Hp} {v : V} {d : D} (k : Kd) (p : Same H1 H2) (h : rK k K H H1 v d) : rK k K H H2 v d := by
  cases k with
  | imm => exact Im.mono (Same.pers p) h
  | dct => exact Fd.mono (Same.pers p) h
  | own => obtain ⟨a, e, n, o⟩ := h; exact ⟨a, e, n, o.mono p⟩
def sPar (i j : Nat) (fa fb : Env → R D) : Env → R Out := fun τ => (fa τ).bind fun d => (fb τ).bind fun e => .ok (.nx ((τ.set i (some d)).set j (some e)))
theorem ds_par (i j : Nat) (ki kj : Kd) {px py : Pos} {kt k2 : Nat} {pt2 : Pos} (hc : X.calm = true) (hN : X.N.Nodup) (hi : X.N[i]? = some x) (hj : X.N[j]? = some y) (hx : X.env.scope.names.lookup x = some .local) (hy : X.env.scope.names.lookup y = some .local) (ha : DE X H0 W κ (rK ki) a fa) (hb : DE X H0 W κ (rK kj) b fb)
    (hki : i < κ.length) (hkj : j < κ.length) (hij : i ≠ j := by decide)
    (hw : swappedStores [.Tuple [.Name x px, .Name y py] kt pt] (.Tuple [a, b] k2 pt2) X.env = pure (some [x, y]) := by rfl)
    (hs : swapsWithSole [.Tuple [.Name x px, .Name y py] kt pt] (.Tuple [a, b] k2 pt2) pos.line X.env = pure false := by rfl)
    (h1 : starEach [a, b] X.env = (false, eval a X.env) :: starEach [b] X.env := by rfl) (h2 : starEach [b] X.env = (false, eval b X.env) :: starEach [] X.env := by rfl) :
    DS X H0 W ρr κ (.Assign [.Tuple [.Name x px, .Name y py] kt pt] (.Tuple [a, b] k2 pt2) pos) (sPar i j fa fb) ((κ.set i ki).set j kj) :=
  ⟨(ps_par hc hN hi hj hij hx hy (pa_cons ha.pe (pa_cons hb.pe pa_nil h2) h1) hw hs).cons fun D σ H ⟨τ, r, q⟩ => ⟨τ, r, PostA.imp (PostA.to (PostA.bind q) r.same) fun d qd v H1 s1 hv => ⟨τ, r.to s1, PostA.imp (PostA.to (PostA.bind qd) (r.same.trans s1)) fun e qe w H2 s2 hw =>
    ⟨v, w, rfl, qe _ H2 (Same.pers (s1.trans s2)) (((r.setK ki s1 hki hv).setK kj s2 (by rw [List.length_set]; exact hkj) hw))⟩⟩⟩⟩
def sPar3 (i j l : Nat) (fa fb fc : Env → R D) : Env → R Out := fun τ => (fa τ).bind fun d => (fb τ).bind fun e => (fc τ).bind fun c => .ok (.nx (((τ.set i (some d)).set j (some e)).set l (some c)))
theorem ds_par3 (i j l : Nat) (ki kj kl : Kd) {px py pz : Pos} {kt k2 : Nat} {pt2 : Pos} (hc : X.calm = true) (hN : X.N.Nodup) (hi : X.N[i]? = some x) (hj : X.N[j]? = some y) (hl : X.N[l]? = some z) (hx : X.env.scope.names.lookup x = some .local) (hy : X.env.scope.names.lookup y = some .local) (hz : X.env.scope.names.lookup z = some .local)
    (ha : DE X H0 W κ (rK ki) a fa) (hb : DE X H0 W κ (rK kj) b fb) (hcc : DE X H0 W κ (rK kl) c fc) (hki : i < κ.length) (hkj : j < κ.length) (hkl : l < κ.length) (hij : i ≠ j := by decide) (hil : i ≠ l := by decide) (hjl : j ≠ l := by decide)
    (hw : swappedStores [.Tuple [.Name x px, .Name y py, .Name z pz] kt pt] (.Tuple [a, b, c] k2 pt2) X.env = pure (some [x, y, z]) := by rfl)
    (hs : swapsWithSole [.Tuple [.Name x px, .Name y py, .Name z pz] kt pt] (.Tuple [a, b, c] k2 pt2) pos.line X.env = pure false := by rfl)
    (h1 : starEach [a, b, c] X.env = (false, eval a X.env) :: starEach [b, c] X.env := by rfl) (h2 : starEach [b, c] X.env = (false, eval b X.env) :: starEach [c] X.env := by rfl) (h3 : starEach [c] X.env = (false, eval c X.env) :: starEach [] X.env := by rfl) :
    DS X H0 W ρr κ (.Assign [.Tuple [.Name x px, .Name y py, .Name z pz] kt pt] (.Tuple [a, b, c] k2 pt2) pos) (sPar3 i j l fa fb fc) (((κ.set i ki).set j kj).set l kl) :=
  ⟨(ps_par3 hc hN hi hj hl hij hil hjl hx hy hz (pa_cons ha.pe (pa_cons hb.pe (pa_cons hcc.pe pa_nil h3) h2) h1) hw hs).cons fun D σ H ⟨τ, r, q⟩ => ⟨τ, r, PostA.imp (PostA.to (PostA.bind q) r.same) fun d qd v H1 s1 hv => ⟨τ, r.to s1, PostA.imp (PostA.to (PostA.bind qd) (r.same.trans s1)) fun e qe w H2 s2 hw =>
    ⟨τ, (r.to s1).to s2, PostA.imp (PostA.to (PostA.bind qe) ((r.same.trans s1).trans s2)) fun c qc u H3 s3 hu => ⟨v, w, u, rfl, qc _ H3 (Same.pers ((s1.trans s2).trans s3)) (((r.setK ki s1 hki hv).setK kj s2 (by rw [List.length_set]; exact hkj) hw).setK kl s3 (by rw [List.length_set, List.length_set]; exact hkl) hu)⟩⟩⟩⟩⟩

/-! ### dicts -/
noncomputable instance decD : DecidableEq D := fun a b => Classical.propDecidable (a = b)
noncomputable def dFind : List (D × D) → D → Option D
  | [], _ => none
  | p :: r, k => if p.1 = k then some p.2 else dFind r k
def isKey : D → Bool
  | .int _ => true
  | .str _ => true
  | _ => false
/-- the mark of a dict keyed by tuples -/
def markT : List (D × D) → Bool
  | (.none, _) :: _ => true
  | _ => false
def keyFit (kvs : List (D × D)) (k : D) : Bool := if markT kvs then (match k with | .tuple ks => ks.all isKey | _ => false) else isKey k
theorem keys_of : ∀ {ds : List D}, ds.all isKey = true → ∃ ks : List Key, ds = ks.map keyD
  | [], _ => ⟨[], rfl⟩
  | d :: r, h => by
    rw [List.all_cons, Bool.and_eq_true] at h
    obtain ⟨ks, e⟩ := keys_of h.2
    have h1 := h.1
    cases d <;> first
      | exact ⟨.inl _ :: ks, by rw [e]; rfl⟩
      | exact ⟨.inr _ :: ks, by rw [e]; rfl⟩
      | (simp [isKey] at h1)
theorem key_of1 {d : D} (h : isKey d = true) : ∃ k : Key, d = keyD k := by
  cases d <;> first
    | exact ⟨.inl _, rfl⟩
    | exact ⟨.inr _, rfl⟩
    | (simp [isKey] at h)
theorem im_key {K : PySem.W.Frag} {H : Hp} {v : V} {k : Key} (h : Im K H v (keyD k)) : v = kV k ∧ kOk k := by
  cases k with
  | inl i => cases h; exact ⟨rfl, trivial⟩
  | inr x => cases h; rename_i h; exact ⟨rfl, h⟩
theorem imAll_kOk {K : PySem.W.Frag} {H : Hp} : ∀ {xs : List V} {ks : List Key}, ImAll K H xs (ks.map keyD) → ∀ k ∈ ks, kOk k
  | _, [], _, k, hk => absurd hk List.not_mem_nil
  | _, _ :: _, .cons h t, k, hk => (List.mem_cons.mp hk).elim (fun e => e ▸ (im_key h).2) (imAll_kOk t k)
theorem mark_K (ks : List (Key × V)) (ds : List D) : markT ((ks.map fun p => keyD p.1).zip ds) = false := by
  cases ks with
  | nil => rfl
  | cons p r =>
    obtain ⟨k, v⟩ := p
    cases ds with
    | nil => rfl
    | cons d t => cases k <;> rfl
theorem find_K {K : PySem.W.Frag} {H : Hp} (k : Key) : ∀ {ks : List (Key × V)} {ds : List D}, ImAll K H (ks.map (·.2)) ds → (match dFind ((ks.map fun p => keyD p.1).zip ds) (keyD k) with | none => valV ks k = none | some d => ∃ v, valV ks k = some v ∧ Im K H v d)
  | [], _, .nil => by simp [dFind, valV_nil]
  | p :: r, _, .cons h t => by
    show match dFind ((keyD p.1, _) :: _) (keyD k) with | none => _ | some d => _
    unfold dFind
    by_cases e : p.1 = k
    · rw [if_pos (by rw [e])]
      exact ⟨p.2, valV_pos e, h⟩
    · rw [if_neg (fun z => e (keyD_inj z)), valV_neg e]
      exact find_K k t
theorem tup_inj {a b : List Key} (h : PyData.tuple (a.map keyD) = .tuple (b.map keyD)) : a = b := by
  injection h with h
  exact List.map_inj_right (fun _ _ h => keyD_inj h) |>.mp h
theorem find_T {K : PySem.W.Frag} {H : Hp} (k : List Key) : ∀ {ks : List (List Key × V)} {ds : List D}, ImAll K H (ks.map (·.2)) ds → (match dFind ((ks.map fun p => PyData.tuple (p.1.map keyD)).zip ds) (.tuple (k.map keyD)) with | none => valV ks k = none | some d => ∃ v, valV ks k = some v ∧ Im K H v d)
  | [], _, .nil => by simp [dFind, valV_nil]
  | p :: r, _, .cons h t => by
    show match dFind ((PyData.tuple (p.1.map keyD), _) :: _) (.tuple (k.map keyD)) with | none => _ | some d => _
    unfold dFind
    by_cases e : p.1 = k
    · rw [if_pos (by rw [e])]
      exact ⟨p.2, valV_pos e, h⟩
    · rw [if_neg (fun z => e (tup_inj z)), valV_neg e]
      exact find_T k t
/-- what a dict holds at a key -/
theorem dget_of {K : PySem.W.Frag} {H0 H : Hp} {x y : V} {kvs : List (D × D)} {k : D} (h : rD K H0 H x (.dict kvs)) (hy : rE K H0 H y k) (hf : keyFit kvs k = true) :
    ∃ a o, x = .ref a ∧ DGet H a y o ∧ (match dFind kvs k with | none => o = none | some d => ∃ v, o = some v ∧ Im K H v d) := by
  obtain ⟨a, rfl, ⟨ks, ds, r1, k1, i1, rfl⟩ | ⟨ks, ds, r1, k1, i1, rfl⟩⟩ := rD_dict h
  · unfold keyFit at hf
    rw [mark_K, if_neg (by decide)] at hf
    obtain ⟨kk, rfl⟩ := key_of1 hf
    have hi : Im K H y (keyD kk) := rD_atom (le_ED.le _ H0 _ _ _ hy) (by cases kk <;> exact nofun) (by cases kk <;> exact nofun) (by cases kk <;> exact nofun)
    obtain ⟨rfl, _⟩ := im_key hi
    refine ⟨a, _, rfl, .inl ⟨ks, kk, r1, rfl, rfl⟩, ?_⟩
    have := find_K kk i1
    split <;> rename_i q <;> rw [q] at this <;> exact this
  · unfold keyFit at hf
    have hm : markT ((PyData.none, PyData.none) :: (ks.map fun p => PyData.tuple (p.1.map keyD)).zip ds) = true := rfl
    rw [hm, if_pos rfl] at hf
    cases k <;> try cases hf
    rename_i ts
    obtain ⟨kk, rfl⟩ := keys_of hf
    obtain ⟨b, ys, rfl, r2, i2, z2⟩ := im_tupK (rE_tupI hy)
    have e := imAll_keys i2
    subst e
    refine ⟨a, _, rfl, .inr ⟨ks, kk, b, r1, rfl, r2, rfl⟩, ?_⟩
    have := find_T kk i1
    unfold dFind
    rw [if_neg nofun]
    split <;> rename_i q <;> rw [q] at this <;> exact this
open Classical in
noncomputable def dGet : D → D → R D
  | .dict kvs, k => if keyFit kvs k = true then (match dFind kvs k with | some d => .ok d | none => .bad) else .bad
  | _, _ => .bad
noncomputable def dInD (k c : D) : R D := match c with
  | .dict kvs => if keyFit kvs k = true then .ok (.bool (dFind kvs k).isSome) else .bad
  | _ => .bad
noncomputable def dNotInD (k c : D) : R D := match c with
  | .dict kvs => if keyFit kvs k = true then .ok (.bool (!(dFind kvs k).isSome)) else .bad
  | _ => .bad
theorem bool_dInD {a b d : D} (h : dInD a b = .ok d) : ∃ k, d = .bool k := by
  cases b <;> try cases h
  simp only [dInD] at h
  split at h <;> cases h
  exact ⟨_, rfl⟩
theorem bool_dNotInD {a b d : D} (h : dNotInD a b = .ok d) : ∃ k, d = .bool k := by
  cases b <;> try cases h
  simp only [dNotInD] at h
  split at h <;> cases h
  exact ⟨_, rfl⟩
theorem do_dIn (hu : X.A.units + 65 < cLine) : DOp X W (compareOp .In) dInD rE rD rI := by
  intro pins s σ H x y v u a b Q I rx ry ha hb p
  cases b <;> try exact p.elim
  rename_i kvs
  simp only [dInD] at p
  by_cases hf : keyFit kvs a = true
  · rw [if_pos hf] at p
    obtain ⟨d, o, rfl, g, m⟩ := dget_of hb ha hf
    obtain rfl : u = Value.ref d := ry
    refine d_in (by omega) I g rx fun s' I' => ⟨.bl o.isSome, H, I', rfl, ?_⟩
    have e : o.isSome = (dFind kvs a).isSome := by
      cases q : dFind kvs a with
      | none => rw [q] at m; rw [show o = none from m]; rfl
      | some d => rw [q] at m; obtain ⟨v, e, _⟩ := m; rw [e]; rfl
    rw [e]
    exact p _ H (Same.refl H) (.bl _)
  · rw [if_neg hf] at p; exact p.elim
theorem do_dNotIn (hu : X.A.units + 65 < cLine) : DOp X W (compareOp .NotIn) dNotInD rE rD rI := by
  intro pins s σ H x y v u a b Q I rx ry ha hb p
  cases b <;> try exact p.elim
  rename_i kvs
  simp only [dNotInD] at p
  by_cases hf : keyFit kvs a = true
  · rw [if_pos hf] at p
    obtain ⟨d, o, rfl, g, m⟩ := dget_of hb ha hf
    obtain rfl : u = Value.ref d := ry
    refine d_notIn (by omega) I g rx fun s' I' => ⟨.bl (!o.isSome), H, I', rfl, ?_⟩
    have e : o.isSome = (dFind kvs a).isSome := by
      cases q : dFind kvs a with
      | none => rw [q] at m; rw [show o = none from m]; rfl
      | some d => rw [q] at m; obtain ⟨v, e, _⟩ := m; rw [e]; rfl
    rw [e]
    exact p _ H (Same.refl H) (.bl _)
  · rw [if_neg hf] at p; exact p.elim
/-- d[k] -/
theorem de_dget (hu : X.A.units + 65 < cLine) (ha : DE X H0 W κ rD a fa) (hb : DE X H0 W κ rE b fb) (hs : NoSl b := by intro _ _; rfl) : DE X H0 W κ rI (.Subscript a b pos) (f2 dGet fa fb) :=
  ⟨(pe_dget (by omega) ha.pe hb.pe hs).cons fun σ H Q ⟨τ, r, q⟩ => ⟨τ, r, PostA.imp (PostA.bind q) fun d pd v H1 s1 hv => ⟨τ, r.to s1, PostA.imp (PostA.bind (PostA.to pd s1)) fun k pk w H2 s2 hw => by
    cases d <;> try exact pk.elim
    rename_i kvs
    simp only [dGet] at pk
    by_cases hf : keyFit kvs k = true
    · rw [if_pos hf] at pk
      obtain ⟨a, o, rfl, g, m⟩ := dget_of (rD.same s2 hv) (stay_E.to _ _ H1 _ _ _ _ (Same.refl H2) hw) hf
      cases q : dFind kvs k with
      | none => rw [q] at pk; exact pk.elim
      | some d =>
        rw [q] at m pk
        obtain ⟨v, rfl, iv⟩ := m
        exact ⟨a, v, rfl, g, pk v H2 (s1.trans s2) iv⟩
    · rw [if_neg hf] at pk; exact pk.elim⟩⟩⟩
/-- {} -/
theorem de_dnewK : DE X H0 W κ rM (.Dict [] [] pos) (fC (.dict [])) :=
  ⟨pe_dnewK.cons fun σ H Q ⟨τ, r, q⟩ => fun p n => q (.ref p) _ (same_upd n) ⟨p, [], rfl, rfl, n, .dK (kvs := []) (ds := []) upd_same (fun _ h => absurd h List.not_mem_nil) .nil⟩⟩
theorem de_dnewT : DE X H0 W κ rM (.Dict [] [] pos) (fC (.dict [(.none, .none)])) :=
  ⟨pe_dnewT.cons fun σ H Q ⟨τ, r, q⟩ => fun p n => q (.ref p) _ (same_upd n) ⟨p, _, rfl, rfl, n, .dT (kvs := []) (ds := []) upd_same (fun _ h => absurd h List.not_mem_nil) .nil⟩⟩
end
end PL
set_option Elab.async false
set_option linter.all false
set_option maxRecDepth 100000
set_option maxHeartbeats 1000000
/-! PL14: dicts: written, their keys, their length, whether one is empty. -/
namespace PL
open PySem PySem.Spec PyProof.Rows L2
section
variable {X : Cx} {H0 : Hp} {W : XK} {κ κ1 κ2 : Kds} {ρ ρr : Res} {e a b c : Expr} {f fa fb fc fk fv : Env → R D} {g : Env → R Out} {pos p pt p2 : Pos} {i j l : Nat} {x y z : Str} {st : Stmt}
/-- the pairs behind d[k] = v -/
noncomputable def dSet (kvs : List (D × D)) (k d : D) : List (D × D) := if kvs.any (fun p => decide (p.1 = k)) = true then kvs.map fun p => if p.1 = k then (p.1, d) else p else kvs ++ [(k, d)]
theorem zip_K {ks : List (Key × V)} {ds : List D} (h : ks.length = ds.length) (k : Key) (v : V) (d : D) : ∃ ds', ds'.length = (putK ks k v).length ∧ dSet ((ks.map fun p => keyD p.1).zip ds) (keyD k) d = ((putK ks k v).map fun p => keyD p.1).zip ds' ∧
    (∀ K H, ImAll K H (ks.map (·.2)) ds → Im K H v d → ImAll K H ((putK ks k v).map (·.2)) ds') := by
  have any : ∀ {ks : List (Key × V)} {ds : List D}, ks.length = ds.length → ((ks.map fun p => keyD p.1).zip ds).any (fun p => decide (p.1 = keyD k)) = ks.any fun kv => decide (kv.1 = k) := fun {ks} => by
    induction ks with
    | nil => intro ds _; rfl
    | cons q r ih =>
      intro ds h
      cases ds with
      | nil => simp at h
      | cons d t =>
        rw [List.map_cons, List.zip_cons_cons, List.any_cons, List.any_cons, ih (by simpa using h)]
        congr 1
        exact decide_eq_decide.mpr ⟨keyD_inj, fun e => by rw [e]⟩
  by_cases hm : (ks.any fun kv => decide (kv.1 = k)) = true
  · refine ⟨(ks.zip ds).map (fun q => if q.1.1 = k then d else q.2), ?_, ?_, ?_⟩
    · unfold putK; rw [if_pos hm]; simp; omega
    · unfold dSet putK
      rw [any h, if_pos hm, if_pos hm]
      clear any hm
      induction ks generalizing ds with
      | nil => rfl
      | cons q r ih =>
        cases ds with
        | nil => simp at h
        | cons d0 t =>
          have := ih (ds := t) (by simpa using h)
          simp only [List.map_cons, List.zip_cons_cons] at this ⊢
          rw [this]
          by_cases e : q.1 = k
          · simp [e]
          · simp [e, show ¬ keyD q.1 = keyD k from fun z => e (keyD_inj z)]
    · intro K H i1 iv
      unfold putK
      rw [if_pos hm]
      clear any hm
      induction ks generalizing ds with
      | nil => cases i1; exact .nil
      | cons q r ih =>
        cases i1 with
        | cons i0 it =>
          rename_i d0 t
          have := ih (ds := t) (by simpa using h) it
          simp only [List.map_cons, List.zip_cons_cons]
          by_cases e : q.1 = k
          · simp only [e, if_true]; exact .cons iv this
          · simp only [e, if_false]; exact .cons i0 this
  · refine ⟨ds ++ [d], ?_, ?_, ?_⟩
    · unfold putK; rw [if_neg hm]; simp; omega
    · unfold dSet putK
      rw [any h, if_neg hm, if_neg hm, List.map_append, List.zip_append (by simpa using h)]
      rfl
    · intro K H i1 iv
      unfold putK
      rw [if_neg hm, List.map_append]
      exact i1.append (.one iv)
theorem zip_T {ks : List (List Key × V)} {ds : List D} (h : ks.length = ds.length) (k : List Key) (v : V) (d : D) : ∃ ds', ds'.length = (putK ks k v).length ∧
    dSet ((.none, .none) :: (ks.map fun p => PyData.tuple (p.1.map keyD)).zip ds) (.tuple (k.map keyD)) d = (.none, .none) :: ((putK ks k v).map fun p => PyData.tuple (p.1.map keyD)).zip ds' ∧
    (∀ K H, ImAll K H (ks.map (·.2)) ds → Im K H v d → ImAll K H ((putK ks k v).map (·.2)) ds') := by
  have any : ∀ {ks : List (List Key × V)} {ds : List D}, ks.length = ds.length → ((ks.map fun p => PyData.tuple (p.1.map keyD)).zip ds).any (fun p => decide (p.1 = .tuple (k.map keyD))) = ks.any fun kv => decide (kv.1 = k) := fun {ks} => by
    induction ks with
    | nil => intro ds _; rfl
    | cons q r ih =>
      intro ds h
      cases ds with
      | nil => simp at h
      | cons d t =>
        rw [List.map_cons, List.zip_cons_cons, List.any_cons, List.any_cons, ih (by simpa using h)]
        congr 1
        exact decide_eq_decide.mpr ⟨tup_inj, fun e => by rw [e]⟩
  have first : (decide ((PyData.none, PyData.none).1 = PyData.tuple (k.map keyD))) = false := decide_eq_false (fun h => by cases h)
  by_cases hm : (ks.any fun kv => decide (kv.1 = k)) = true
  · refine ⟨(ks.zip ds).map (fun q => if q.1.1 = k then d else q.2), ?_, ?_, ?_⟩
    · unfold putK; rw [if_pos hm]; simp; omega
    · unfold dSet putK
      rw [List.any_cons, first, Bool.false_or, any h, if_pos hm, if_pos hm, List.map_cons, if_neg nofun]
      congr 1
      clear any hm
      induction ks generalizing ds with
      | nil => rfl
      | cons q r ih =>
        cases ds with
        | nil => simp at h
        | cons d0 t =>
          have := ih (ds := t) (by simpa using h)
          simp only [List.map_cons, List.zip_cons_cons] at this ⊢
          rw [this]
          by_cases e : q.1 = k
          · simp [e]
          · simp only [e, show ¬ PyData.tuple (q.1.map keyD) = .tuple (k.map keyD) from fun z => e (tup_inj z), if_false]
    · intro K H i1 iv
      unfold putK
      rw [if_pos hm]
      clear any hm
      induction ks generalizing ds with
      | nil => cases i1; exact .nil
      | cons q r ih =>
        cases i1 with
        | cons i0 it =>
          rename_i d0 t
          have := ih (ds := t) (by simpa using h) it
          simp only [List.map_cons, List.zip_cons_cons]
          by_cases e : q.1 = k
          · simp only [e, if_true]; exact .cons iv this
          · simp only [e, if_false]; exact .cons i0 this
  · refine ⟨ds ++ [d], ?_, ?_, ?_⟩
    · unfold putK; rw [if_neg hm]; simp; omega
    · unfold dSet putK
      rw [List.any_cons, first, Bool.false_or, any h, if_neg hm, if_neg hm, List.map_append, List.zip_append (by simpa using h)]
      rfl
    · intro K H i1 iv
      unfold putK
      rw [if_neg hm, List.map_append]
      exact i1.append (.one iv)
def dictAt (i : Nat) (τ : Env) : R (List (D × D)) := match τ[i]? with | some (some (.dict xs)) => .ok xs | _ => .bad
theorem post_dict {mg : Str → Option Value} {H : Hp} {i : Nat} {τ : Env} {A : List (D × D) → Prop} (h : PostA mg W H (dictAt i τ) A) : ∃ xs, τ[i]? = some (some (.dict xs)) ∧ A xs := by
  unfold dictAt at h
  split at h
  · rename_i xs e; exact ⟨xs, e, h⟩
  · exact h.elim
noncomputable def sDPut (i : Nat) (fk fv : Env → R D) : Env → R Out := fun τ => (fv τ).bind fun d => (dictAt i τ).bind fun kvs => (fk τ).bind fun k => if keyFit kvs k = true ∧ kvs.length < sizeLine then .ok (.nx (τ.set i (some (.dict (dSet kvs k d))))) else .bad
theorem ds_dput {idx : Expr} {spos : Pos} (i : Nat) (hu : X.A.units + 65 < cLine) (hk : kd κ i = .own) (he : DE X H0 W κ rI e fv) (hi : DE X H0 W κ rI idx fk) (hN : X.N[i]? = some x := by rfl) (hv : Vis X.env.scope x := by first | exact Or.inl rfl | exact Or.inr (Or.inl rfl) | exact Or.inr (Or.inr rfl))
    (hd : (x == ("__debug__" : Str)) = false := by decide) (hcd : (x == ("__classdict__" : Str)) = false := by decide) (hs : swapsWith e (some (.Subscript (.Name x p2) idx spos)) pos.line X.env = pure false := by rfl) :
    DS X H0 W ρr κ (.Assign [.Subscript (.Name x p2) idx spos] e pos) (sDPut i fk fv) κ :=
  ⟨(ps_dput (by omega) (pe_var hN hv hd hcd) hi.pe he.pe hs).cons fun D σ H ⟨τ, r, q⟩ => ⟨τ, r, PostA.imp (PostA.to (PostA.bind q) r.same) fun d qd v H1 s1 hv1 => by
    have r1 := r.to s1
    obtain ⟨kvs, e1, q1⟩ := post_dict (PostA.bind qd)
    obtain ⟨a, h1, h2, h3⟩ := r1.own i _ e1 hk
    refine ⟨.ref a, h1, τ, r1, PostA.imp (PostA.to (PostA.bind q1) r1.same) fun k qk w H2 s2 hw => ?_⟩
    by_cases ok : keyFit kvs k = true ∧ kvs.length < sizeLine
    · rw [if_pos ok] at qk
      obtain ⟨ok1, ok2⟩ := ok
      have h4 := h3.mono s2
      have r2 := r1.to s2
      have pw := (Same.pers (s1.trans s2))
      generalize ek : (PyData.dict kvs) = dd at h4 e1
      cases h4 with
      | lst => cases ek
      | @dK ks ds g1 g2 g3 =>
        injection ek with ek
        subst ek
        unfold keyFit at ok1
        rw [mark_K, if_neg (by decide)] at ok1
        obtain ⟨kk, rfl⟩ := key_of1 ok1
        obtain ⟨rfl, ko⟩ := im_key hw
        have hl : ks.length = ds.length := by have := g3.length; simpa using this
        obtain ⟨ds', l', e', i'⟩ := zip_K hl kk v d
        have m : Mut (H2 a) := by rw [g1]; trivial
        refine ⟨a, _, rfl, .k g1 (by simpa [hl] using ok2), ?_⟩
        rw [e'] at qk
        refine qk σ _ (pw.trans (pers_upd m)) (r2.write e1 hk h1 (.dK upd_same (fun p hp => ?_) ((i' _ _ g3 (hv1.mono (Same.pers s2))).mono (pers_upd m))))
        unfold putK at hp
        split at hp
        · obtain ⟨q0, hq0, rfl⟩ := List.mem_map.mp hp
          have := g2 q0 hq0
          split <;> exact this
        · rcases List.mem_append.mp hp with hp | hp
          · exact g2 p hp
          · rw [List.mem_singleton.mp hp]; exact ko
      | @dT ks ds g1 g2 g3 =>
        injection ek with ek
        subst ek
        unfold keyFit at ok1
        have hm : markT ((PyData.none, PyData.none) :: (ks.map fun p => PyData.tuple (p.1.map keyD)).zip ds) = true := rfl
        rw [hm, if_pos rfl] at ok1
        cases k <;> try cases ok1
        rename_i ts
        obtain ⟨kk, rfl⟩ := keys_of ok1
        obtain ⟨b, ys, rfl, t1, t3, t2⟩ := im_tupK hw
        · have ey := imAll_keys t3
          subst ey
          have hl : ks.length = ds.length := by have := g3.length; simpa using this
          obtain ⟨ds', l', e', i'⟩ := zip_T hl kk v d
          have m : Mut (H2 a) := by rw [g1]; trivial
          refine ⟨a, _, rfl, .t g1 t1 (by simp [hl] at ok2; omega), ?_⟩
          rw [e'] at qk
          refine qk σ _ (pw.trans (pers_upd m)) (r2.write e1 hk h1 (.dT upd_same (fun p hp => ?_) ((i' _ _ g3 (hv1.mono (Same.pers s2))).mono (pers_upd m))))
          unfold putK at hp
          split at hp
          · obtain ⟨q0, hq0, rfl⟩ := List.mem_map.mp hp
            have := g2 q0 hq0
            split <;> exact this
          · rcases List.mem_append.mp hp with hp | hp
            · exact g2 p hp
            · rw [List.mem_singleton.mp hp]; exact imAll_kOk t3
    · rw [if_neg ok] at qk; exact qk.elim⟩⟩
/-! list(d), len(d), d == {} -/
def dKeys : D → R D
  | .dict kvs => if markT kvs = true then .bad else .ok (.list (kvs.map (·.1)))
  | _ => .bad
def dLenD : D → R D
  | .dict kvs => if markT kvs = true then .bad else .ok (.int kvs.length)
  | _ => .bad
def dNil : D → R D
  | .dict kvs => if markT kvs = true then .bad else .ok (.bool kvs.isEmpty)
  | _ => .bad
theorem rd_K {K : PySem.W.Frag} {H H' : Hp} {x : V} {kvs : List (D × D)} (h : rD K H H' x (.dict kvs)) (hm : ¬ markT kvs = true) : ∃ a ks ds, x = .ref a ∧ Rd H' a (.dK ks) ∧ (∀ p ∈ ks, kOk p.1) ∧ ImAll K H' (ks.map (·.2)) ds ∧ kvs = (ks.map fun p => keyD p.1).zip ds := by
  obtain ⟨a, rfl, ⟨ks, ds, r1, k1, i1, e⟩ | ⟨ks, ds, r1, k1, i1, e⟩⟩ := rD_dict h
  · exact ⟨a, ks, ds, rfl, r1, k1, i1, e⟩
  · subst e; exact absurd rfl hm
theorem zip_keys {ks : List (Key × V)} {ds : List D} (h : ks.length = ds.length) : ((ks.map fun p => keyD p.1).zip ds).map (·.1) = ks.map fun p => keyD p.1 := List.map_fst_zip (by simp; omega)
theorem dc_listD (hc : X.calm = true) : DC1 X W (.type "list") dKeys rD rN := by
  intro pins s σ H x v a Q I rx ha q
  cases a <;> try exact q.elim
  rename_i kvs
  simp only [dKeys] at q
  by_cases hm : markT kvs = true
  · rw [if_pos hm] at q; exact q.elim
  · rw [if_neg hm] at q
    obtain ⟨a, ks, ds, rfl, r1, k1, i1, e⟩ := rd_K ha hm
    have z := (dk_rd I.hok r1).1
    have hl : ks.length = ds.length := by have := i1.length; simpa using this
    refine call_listD hc pins s σ H _ _ Q I (.cons rx .nil) ⟨a, ks, rfl, r1, fun p n => q _ _ (same_upd n) ⟨p, _, rfl, rfl, n, .lst upd_same ?_ ?_⟩⟩
    · rw [e, zip_keys hl, List.length_map]; exact z
    · rw [e, zip_keys hl]
      have := kVs_im (K := X.K) (H := upd H p (.lst (ks.map fun kv => kV kv.1))) (ks := ks.map (·.1)) fun k hk => by
        obtain ⟨p, hp, rfl⟩ := List.mem_map.mp hk
        exact k1 p hp
      rw [List.map_map, List.map_map] at this
      exact this
theorem dc_lenD : DC1 X W (.builtin "len") dLenD rD rI := by
  intro pins s σ H x v a Q I rx ha q
  cases a <;> try exact q.elim
  rename_i kvs
  simp only [dLenD] at q
  by_cases hm : markT kvs = true
  · rw [if_pos hm] at q; exact q.elim
  · rw [if_neg hm] at q
    obtain ⟨a, ks, ds, rfl, r1, k1, i1, e⟩ := rd_K ha hm
    cases rx
    have hl : ks.length = ds.length := by have := i1.length; simpa using this
    have e2 : kvs.length = ks.length := by rw [e]; simp [hl]
    rw [e2] at q
    exact d_len I r1 fun t s' I' => ⟨.int ks.length, H, I', ⟨t, rfl⟩, q _ H (Same.refl H) (.int _)⟩
theorem or_nil (hu : X.A.units + 65 < cLine) : OpR X (compareOp .Eq) (fun x y H Q => ∃ a b ks, x = .ref a ∧ y = .ref b ∧ Rd H a (.dK ks) ∧ H b = some (.dK []) ∧ Q (.bl ks.isEmpty) H) := by
  intro pins s σ H x y v u Q I rx ry h
  obtain ⟨a, b, ks, rfl, rfl, ea, eb, q⟩ := h
  cases rx; cases ry
  obtain ⟨_, ya, va, ra, da⟩ := dk_rd I.hok ea
  obtain ⟨_, yb, vb, rb, db⟩ := dk_of I.hok eb
  cases rb
  cases ra with
  | nil => exact PySem.W.keq_eq (knd := mixKind X.prog X.w) (r := true) ya yb da db (by omega) (fun _ => hits_all .nil .nil fun p hp => absurd hp List.not_mem_nil) (fin_bl I q (by simp))
  | cons _ _ => exact PySem.W.keq_eq (knd := mixKind X.prog X.w) (r := false) ya yb da db (by omega) (fun z => by simp at z) (fin_bl I q (by simp))
/-- d == {} -/
theorem de_nil {p3 : Pos} (hu : X.A.units + 65 < cLine) (ha : DE X H0 W κ rD a fa) : DE X H0 W κ rI (.Compare a [.Eq] [.Dict [] [] p3] pos) (f1 dNil fa) :=
  ⟨(pe_cmpR (or_nil hu) ha.pe pe_dnewK rfl).cons fun σ H Q ⟨τ, r, q⟩ => ⟨τ, r, PostA.imp (PostA.bind q) fun d pd v H1 s1 hv => fun p n => by
    cases d <;> try exact pd.elim
    rename_i kvs
    simp only [dNil] at pd
    by_cases hm : markT kvs = true
    · rw [if_pos hm] at pd; exact pd.elim
    · rw [if_neg hm] at pd
      obtain ⟨a, ks, ds, rfl, r1, k1, i1, e⟩ := rd_K (rD.same (H1 := H1) (same_upd n) hv) hm
      refine ⟨a, p, ks, rfl, rfl, r1, upd_same, ?_⟩
      have hl : ks.length = ds.length := by have := i1.length; simpa using this
      have e2 : kvs.isEmpty = ks.isEmpty := by
        rw [e]
        cases ks with
        | nil => rfl
        | cons k r => cases ds with
          | nil => simp at hl
          | cons _ _ => rfl
      rw [e2] at pd
      exact pd _ _ (s1.trans (same_upd n)) (.bl _)⟩⟩
end
end PL
set_option Elab.async false
set_option linter.all false
set_option maxRecDepth 100000
set_option maxHeartbeats 1000000
/-! PL15: a list that is emptied within a comprehension, handed back. -/
namespace PL
open PySem PySem.Spec PyProof.Rows L2

/-- from the list at slot i one after the other, each at the place that fe tells -/
def popGo (i : Nat) (b : D → Env → R Env) (fe : Env → R D) (τ0 : Env) : List D → List D → R (List D)
  | [], _ => .ok []
  | d :: ds, left => (b d (τ0.set i (some (.list left)))).bind fun τ1 => (fe τ1).bind fun k => (placeOf k left).bind fun n => match left[n]? with
    | some y => (popGo i b fe τ0 ds (left.eraseIdx n)).bind fun ys => .ok (y :: ys)
    | none => .bad
def sRetPop (i : Nat) (vs : List Nat) (it : Env → R (List D)) (b : D → Env → R Env) (fe : Env → R D) : Env → R Out := fun τ => (listAt i τ).bind fun left => (it τ).bind fun ds => (popGo i b fe (wipeE τ vs) ds left).calm.bind fun ys => .ok (.rt (.list ys))
theorem nn_retPop {i : Nat} {vs : List Nat} {it : Env → R (List D)} {b : D → Env → R Env} {fe : Env → R D} : NoNx (sRetPop i vs it b fe) := fun τ τ' h => by
  obtain ⟨_, _, h⟩ := bind_ok' h
  obtain ⟨_, _, h⟩ := bind_ok' h
  obtain ⟨_, _, h⟩ := bind_ok' h
  cases h
theorem Rep.other {K : PySem.W.Frag} {H0 H : Hp} {κ : Kds} {σ : L2.St} {τ : Env} {E : Addr} {o : HO} (r : Rep K H0 H κ σ τ) (m : Mut (H E)) (n0 : H0 E = none) (hs : ∀ j d, τ[j]? = some (some d) → kd κ j = .own → σ[j]? ≠ some (some (.ref E))) : Rep K H0 (upd H E o) κ σ τ := by
  have p : Pers H (upd H E o) := pers_upd m
  refine ⟨r.len, fun j d e k => ?_, fun j d e k => ?_, fun j d e k => ?_, r.sep, fun c oc hc => ?_⟩
  · obtain ⟨v, h1, h2⟩ := r.imm j d e k; exact ⟨v, h1, h2.mono p⟩
  · obtain ⟨v, h1, h2⟩ := r.dct j d e k; exact ⟨v, h1, h2.mono p⟩
  · obtain ⟨a, h1, h2, h3⟩ := r.own j d e k
    have hne : a ≠ E := fun z => by subst z; exact hs j d e k h1
    exact ⟨a, h1, h2, h3.keep p (upd_ne hne)⟩
  · have hne : c ≠ E := fun z => by subst z; rw [n0] at hc; cases hc
    rw [upd_ne hne]; exact r.same c oc hc
section
variable {X : Cx} {H0 : Hp} {W : XK} {κ κ' κ1 : Kds} {ρr : Res} {tg iter e : Expr} {vs ws : List Nat} {b : D → Env → R Env} {fi : Env → R (List D)} {fe : Env → R D} {pos pos' apos cpos p2 : Pos} {scope : Scope} {own : List (Str × Nat)} {i : Nat} {x : Str}
theorem tLc_pop {σ : L2.St} {H : Hp} {Q : VK} {τ : Env} (r : Rep X.K H0 H κ σ τ) (hk : kd (wipeK κ vs) i = .own) (hi : i ∉ vs) (hsub : ∀ j ∈ ws, j ∈ vs) {left : List D} (e1 : τ[i]? = some (some (.list left)))
    (q : PostA X.mg W H ((fi τ).bind fun ds => (popGo i b fe (wipeE τ vs) ds left).calm) fun ys => ∀ v H', Same H0 H' → rN X.K H0 H' v (.list ys) → Q v H') :
    tLc (tI X.K X.mg H0 W κ fi) (gD X.K H0 (wipeK κ vs) κ' ws b) (tT X.K X.mg H0 E0 κ' tYes') (tBM X.K "list" rPopAt (fun σ H Q => ∃ v, σ[i]? = some (some v) ∧ Q v H) (tCons (tD X.K X.mg H0 E0 κ' rI fe) tNil)) vs σ H Q := by
  refine ⟨τ, r, PostA.imp (PostA.bind q) fun ds qd J H1 s1 ok D nD => ?_⟩
  obtain ⟨res, eres, qr⟩ := lc_ok (PostA.imp qd fun ys h => h)
  have hwi : (wipeE τ vs)[i]? = some (some (.list left)) := by
    clear q qd eres qr hk hsub
    induction vs with
    | nil => exact e1
    | cons v vs ih =>
      show ((wipeE τ vs).set v none)[i]? = _
      rw [List.getElem?_set_ne (fun z => hi (by rw [z]; exact List.mem_cons_self))]
      exact ih (fun z => hi (List.mem_cons_of_mem _ z))
  have set_same : (wipeE τ vs).set i (some (.list left)) = wipeE τ vs := by
    apply List.ext_getElem?
    intro j
    by_cases hj : i = j
    · subst hj; rw [List.getElem?_set_self (List.getElem?_eq_some_iff.mp hwi).1, hwi]
    · rw [List.getElem?_set_ne hj]
  have r0 : Rep X.K H0 H1 (wipeK κ vs) (wipe σ vs) ((wipeE τ vs).set i (some (.list left))) := by rw [set_same]; exact (r.to s1).wipe vs
  have n0 : H0 D = none := r0.same.free nD
  have apart : ∀ (l2 : List PyData) j d, ((wipeE τ vs).set i (some (.list l2)))[j]? = some (some d) → kd (wipeK κ vs) j = .own → (wipe σ vs)[j]? ≠ some (some (.ref D)) := fun l2 j d e k z => by
    have : ∃ d', ((wipeE τ vs).set i (some (.list left)))[j]? = some (some d') := by
      rw [set_same]
      by_cases hj : i = j
      · subst hj; exact ⟨_, hwi⟩
      · rw [List.getElem?_set_ne hj] at e; exact ⟨d, e⟩
    obtain ⟨d', e'⟩ := this
    obtain ⟨a, h1, _, h3⟩ := r0.own j d' e' k
    rw [z] at h1; cases h1
    obtain ⟨o, ho⟩ := h3.there
    rw [nD] at ho; cases ho
  refine ⟨fun t m H => t + m = ds.length ∧ ∃ acc ys zs l2, H D = some (.lst acc) ∧ ImAll X.K H acc ys ∧ ys.length ≤ t ∧ Pers H1 H ∧ Rep X.K H0 H (wipeK κ vs) (wipe σ vs) ((wipeE τ vs).set i (some (.list l2))) ∧ popGo i b fe (wipeE τ vs) (ds.drop t) l2 = .ok zs ∧ res = ys ++ zs,
    ⟨ds.length, by omega, [], [], res, left, upd_same, .nil, Nat.le_refl _, Same.pers (same_upd nD), r0.to (same_upd nD), by simpa using eres, rfl⟩, fun t m H2 hW => ?_⟩
  obtain ⟨em, acc, ys, zs, l2, hD, ia, ly, s2, rw2, ez, er⟩ := hW
  by_cases hlt : t < ds.length
  · refine .inr ⟨ok.go H2 t s2 hlt, fun H' => t + 1 + (m - 1) = ds.length ∧ ∃ acc ys zs l2, H' D = some (.lst acc) ∧ ImAll X.K H' acc ys ∧ ys.length ≤ t + 1 ∧ Pers H1 H' ∧ Rep X.K H0 H' (wipeK κ vs) (wipe σ vs) ((wipeE τ vs).set i (some (.list l2))) ∧ popGo i b fe (wipeE τ vs) (ds.drop (t + 1)) l2 = .ok zs ∧ res = ys ++ zs,
      fun H' hN => ⟨m - 1, by omega, hN⟩, fun x H3 hy => ?_⟩
    have hd : ds[t]? = some ds[t] := List.getElem?_eq_getElem hlt
    obtain ⟨s3, ix⟩ := ok.yld H2 t x H3 ds[t] s2 hy hd
    rw [List.drop_eq_getElem_cons hlt] at ez
    obtain ⟨τ1, eb, ez⟩ := bind_ok' (show (b ds[t] ((wipeE τ vs).set i (some (.list l2)))).bind _ = .ok zs from ez)
    obtain ⟨k, ek, ez⟩ := bind_ok' ez
    obtain ⟨n, en, ez⟩ := bind_ok' ez
    cases ey : l2[n]? with
    | none => rw [ey] at ez; cases ez
    | some y =>
      rw [ey] at ez
      obtain ⟨zs', ezs, ez⟩ := bind_ok' ez
      cases ez
      have rw3 := rw2.to s3
      refine ⟨_, ds[t], rw3, ix, ?_⟩
      rw [eb]
      intro σ2 r2 k2
      refine ⟨wipe_eq (by rw [k2.1, wipe_length]) k2.2 hsub, τ1, r2, ?_⟩
      intro H4 s4
      rw [if_pos rfl]
      have rw4 := rw3.to s4
      obtain ⟨il, hl⟩ : i < ((wipeE τ vs).set i (some (.list l2))).length ∧ True := ⟨by rw [List.length_set]; exact (List.getElem?_eq_some_iff.mp hwi).1, trivial⟩
      have e2 : ((wipeE τ vs).set i (some (.list l2)))[i]? = some (some (.list l2)) := by rw [List.getElem?_set_self (by simpa using il)]
      obtain ⟨a, xs, h1, h2, h3, h4⟩ := own_list rw4 hk e2
      have h1' : σ2[i]? = some (some (.ref a)) := by rw [k2.2 i (fun z => hi (hsub i z)), h1]
      refine ⟨.ref a, h1', .inl ⟨rfl, xs, .inl (.inl h2)⟩, τ1, r2.to s4, ?_⟩
      rw [ek]
      intro w H5 s5 hw
      have rw5 := rw4.to s5
      have h2' := s5 _ _ h2
      have h3' := h3.mono (Same.pers s5)
      have l := h3.length
      have lk : ∃ kk, k = .int kk ∧ -(2 ^ 63) ≤ kk ∧ kk < 2 ^ 63 ∧ seqIndex? kk l2.length = some n := by
        cases k <;> try cases en
        rename_i kk
        unfold placeOf at en
        by_cases hz : -(2 ^ 63) ≤ kk ∧ kk < 2 ^ 63
        · simp only [if_pos hz] at en
          cases eq : seqIndex? kk l2.length with
          | none => simp only [eq] at en; cases en
          | some n' => simp only [eq] at en; cases en; exact ⟨kk, rfl, hz.1, hz.2, eq⟩
        · simp only [if_neg hz] at en; cases en
      obtain ⟨kk, rfl, k1, k3, en'⟩ := lk
      cases hw
      obtain ⟨v, v1, v2⟩ := h3'.get ey
      refine ⟨a, xs, kk, n, v, rfl, rfl, h2', k1, k3, by rw [l]; exact en', v1, ?_⟩
      have m5 : Mut (H5 a) := by rw [h2']; trivial
      have hDa : D ≠ a := fun z => by
        subst z
        exact apart l2 i _ e2 hk h1
      have hD5 : H5 D = some (.lst acc) := s5 _ _ (s4 _ _ (s3 _ _ hD))
      have rw6 : Rep X.K H0 (upd H5 a (.lst (xs.eraseIdx n))) (wipeK κ vs) (wipe σ vs) ((wipeE τ vs).set i (some (.list (l2.eraseIdx n)))) := by
        have := rw5.putL (ys := xs.eraseIdx n) hk e2 h1 (Nat.le_trans (erase_len l2 n) h4) (h3'.eraseIdx n) m5
        rwa [List.set_set] at this
      have p5 : Pers H2 (upd H5 a (.lst (xs.eraseIdx n))) := ((Same.pers (s3.trans (s4.trans s5)))).trans (pers_upd m5)
      have hD6 : (upd H5 a (.lst (xs.eraseIdx n))) D = some (.lst acc) := by rw [upd_ne hDa]; exact hD5
      have m6 : Mut ((upd H5 a (.lst (xs.eraseIdx n))) D) := by rw [hD6]; trivial
      have lac := ia.length
      have p6 := p5.trans (pers_upd (o := .lst (acc ++ [v])) m6)
      refine ⟨acc, hD6, by have := ok.len; omega, by omega, acc ++ [v], ys ++ [y], zs', l2.eraseIdx n, upd_same, ?_, by rw [List.length_append]; simp; omega, s2.trans p6, rw6.other m6 n0 (apart _), ezs, by rw [er]; simp⟩
      exact (ia.mono p6).append (.one (v2.mono ((pers_upd m5).trans (pers_upd (o := .lst (acc ++ [v])) m6))))
  · refine .inl ⟨ok.stop H2 t s2 (by omega), ?_⟩
    have ei : ds.drop t = [] := List.drop_eq_nil_of_le (by omega)
    rw [ei] at ez
    cases ez
    rw [List.append_nil] at er
    subst er
    have ll := ok.len
    exact qr (.ref D) H2 rw2.same ⟨D, _, rfl, rfl, n0, .lst hD (by omega) ia⟩
/-- return [left.pop(e) for ..], left an own list -/
theorem ds_retPop (i : Nat) (hc : X.calm = true) (hN : X.N.Nodup) (hkw : kd (wipeK κ vs) i = .own) (hi : DI X H0 W κ tg iter fi) (ok : BlkOk X.N X.env.scope scope own) (hvs : own.map (·.2) = vs)
    (hg : ∀ (s : Shared) (H : Hp) (C : Addr) (cl : List (Str × Addr)) (fp : List Addr), DP (X.blk s H scope (compEnvC scope cl C X.env) fp) H0 (wipeK κ vs) tg ws b κ')
    (he : ∀ (s : Shared) (H : Hp) (C : Addr) (cl : List (Str × Addr)) (fp : List Addr), DE (X.blk s H scope (compEnvC scope cl C X.env) fp) H0 E0 κ' rI e fe)
    (hp : ∀ (s : Shared) (H : Hp) (C : Addr) (cl : List (Str × Addr)) (fp : List Addr), PE (X.blk s H scope (compEnvC scope cl C X.env) fp) (.Call (.Attribute (.Name x p2) "pop" apos) [e] [] cpos)
      (tBM X.K "list" rPopAt (fun σ H Q => ∃ v, σ[i]? = some (some v) ∧ Q v H) (tCons (tD X.K X.mg H0 E0 κ' rI fe) tNil)))
    (l : Res.Le rN ρr) (hiv : i ∉ vs := by decide) (hsub : ∀ j ∈ ws, j ∈ vs := by decide) (hs : ∀ x, foldedSetIterable iter X.env x = pure x := by intro _; rfl) :
    DS X H0 W ρr κ (.Return (some (.ListComp (.Call (.Attribute (.Name x p2) "pop" apos) [e] [] cpos) [⟨tg, iter, [], 0⟩] scope pos)) pos') (sRetPop i vs fi b fe) κ1 :=
  ⟨(ps_ret (pe_lc (g := gD X.K H0 (wipeK κ vs) κ' ws b) (tt := tT X.K X.mg H0 E0 κ' tYes') (te := tBM X.K "list" rPopAt (fun σ H Q => ∃ v, σ[i]? = some (some v) ∧ Q v H) (tCons (tD X.K X.mg H0 E0 κ' rI fe) tNil)) hc hN hi.pi ok (fun s H C cl fp => (hg s H C cl fp).pg)
    (fun s H C cl fp => dts_nil.pt) hp hs)).cons fun D σ H ⟨τ, r, q⟩ => by
    rw [hvs]
    obtain ⟨left, e1, q1⟩ := post_list (PostA.bind q)
    refine tLc_pop r hkw hiv hsub e1 (PostA.to (H := H0) ?_ r.same)
    have q2 := PostA.bind q1
    cases h : fi τ with
    | ok ds =>
      rw [h] at q2
      have q3 : PostA X.mg W H0 ((popGo i b fe (wipeE τ vs) ds left).calm.bind fun ys => R.ok (Out.rt (.list ys))) (PostO X.K H0 κ1 ρr D H) := q2
      exact PostA.imp (PostA.bind q3) fun ys z v H' s hv => z v H' s (l.le _ _ _ _ _ hv)
    | err n => rw [h] at q2; exact q2
    | bad => rw [h] at q2; exact q2⟩
/-- left.pop(e), as the comprehension asks for it -/
theorem pe_popC (i : Nat) (he : DE X H0 E0 κ rI e fe) (hi : X.N[i]? = some x := by rfl) (hv : Vis X.env.scope x := by first | exact Or.inl rfl | exact Or.inr (Or.inl rfl) | exact Or.inr (Or.inr rfl)) (hd : (x == ("__debug__" : Str)) = false := by decide) (hcd : (x == ("__classdict__" : Str)) = false := by decide)
    (hbase : attributeBase (.Name x p2) "pop" X.env (eval (.Name x p2) X.env) = eval (.Name x p2) X.env := by rfl)
    (hfew : ((backTo cpos (starEach [e] X.env)).all (fun x => !x.1) && (backToKw cpos (keywordEach [] X.env)).all (fun x => x.1.isSome)
      && decide (([e] : List Expr).length + ([] : List Keyword).length + (if ([] : List Keyword).isEmpty then 0 else 1) < 30)) = true := by rfl)
    (hline : (apos.endLine == cpos.line) = true := by rfl) (hst : starEach [e] X.env = (false, eval e X.env) :: starEach [] X.env := by rfl) (hplain : (backTo cpos (starEach [] X.env)).any (·.1) = false := by rfl) :
    PE X (.Call (.Attribute (.Name x p2) "pop" apos) [e] [] cpos) (tBM X.K "list" rPopAt (fun σ H Q => ∃ v, σ[i]? = some (some v) ∧ Q v H) (tCons (tD X.K X.mg H0 E0 κ rI fe) tNil)) :=
  pe_bm PySem.F.plainAttrs_list PySem.F.slot_list_pop PySem.F.type_list_pop mt_popAt (pe_var hi hv hd hcd) (pa_cons he.pe pa_nil hst) hbase hfew hline hst hplain
end
end PL
set_option Elab.async false
set_option linter.all false
set_option maxRecDepth 100000
set_option maxHeartbeats 1000000
/-! PL16: short rules. -/
namespace PL
open PySem PySem.Spec PyProof.Rows L2
noncomputable def dSortedL : D → R D := fun d => match d with | .list _ => dSorted d | _ => .bad
section
variable {X : Cx} {H0 : Hp} {W : XK} {κ : Kds} {e a : Expr} {f fa : Env → R D} {pos : Pos}
theorem dt_nil {p3 : Pos} (hu : X.A.units + 65 < cLine) (ha : DE X H0 W κ rD a fa) : DT X H0 W κ (.Compare a [.Eq] [.Dict [] [] p3] pos) (fTru (f1 dNil fa)) :=
  ⟨(pt_cmpR (or_nil hu) ha.pe pe_dnewK rfl).cons fun σ H Q ⟨τ, r, q⟩ => ⟨τ, r, by
    refine PostA.imp (PostA.bind (PostA.bind q)) fun d pd v H1 s1 hv => fun p n => ?_
    cases d <;> try exact pd.elim
    rename_i kvs
    simp only [dNil] at pd
    by_cases hm : markT kvs = true
    · rw [if_pos hm] at pd; exact pd.elim
    · rw [if_neg hm] at pd
      obtain ⟨a, ks, ds, rfl, r1, k1, i1, e⟩ := rd_K (rD.same (H1 := H1) (same_upd n) hv) hm
      refine ⟨a, p, ks, rfl, rfl, r1, upd_same, ?_⟩
      have hl : ks.length = ds.length := by have := i1.length; simpa using this
      have e2 : kvs.isEmpty = ks.isEmpty := by
        rw [e]
        cases ks with
        | nil => rfl
        | cons k r => cases ds with
          | nil => simp at hl
          | cons _ _ => rfl
      rw [e2] at pd
      exact ⟨_, rfl, pd _ (s1.trans (same_upd n))⟩⟩⟩
theorem dc_sortedL (hu : X.A.units + 65 < cLine) : DC1 X W (.builtin "sorted") dSortedL rE rN := dc_sorted hu
theorem nn_retK {f : Env → R D} : NoNx (sRet f) := nn_ret
end
end PL
set_option Elab.async false
set_option linter.all false
set_option maxRecDepth 100000
set_option maxHeartbeats 1000000
/-! PL17: from the text's top to the law's promise. -/
namespace PL
open PySem PySem.Spec PyProof.Rows L2
theorem defIn_mk {K : PySem.W.Frag} {h : Heap} {mg : Str → Option Value} (X : K.In h) (G : h.Ns mainGlobals mg) {x : Str} {st : Stmt} {f : Addr} {oc : Value} {od an : Option Addr} {sl : Array (Option Value)} {kV dc pm cd ct : Value} {ps : List Str}
    (a : PySem.W.nsIn K mainGlobals x = some (some (.ref f))) (l : K.lookup f = some ⟨oc, od, .func (PySem.W.fnOf x x (defArgs st) (defBody st) (defScope st) .none kV dc pm an cd ct), sl⟩) (c : PySem.W.codeIn K cd x = true) (k : PySem.W.keepIn K (.ref f) = true)
    (hb : ∀ (kV doc pm : Value) (an : Option Addr) (cdv ct : Value) (us : List Value), us.length = ps.length → bindArgs (PySem.W.fnOf x x (defArgs st) (defBody st) (defScope st) .none kV doc pm an cdv ct) ⟨us, []⟩ = pure (ps.zip us)) : DefIn K mg x st ps :=
  ⟨f, _, fun_mk l c k, PySem.W.mg_of X G a, (fun_mk l c k).binds hb⟩
/-- the law's promise, as the head asks for it -/
def spLaw (K : PySem.W.Frag) : Sp := fun vs H Q _ => ∃ (a : Addr) (ns : List Int), vs = [.ref a] ∧ ns.length ≤ 63 ∧ KpL K H a (ns.map V.int) ∧ ∀ H', Q (.bl true) H'
theorem im_ints {K : PySem.W.Frag} {H : Hp} : ∀ ns : List Int, ImAll K H (ns.map V.int) (ns.map PyData.int)
  | [] => .nil
  | i :: ns => .cons (.int i) (im_ints ns)
theorem law_imp {P : Program} {w : World} {K : PySem.W.Frag} {mg : Str → Option Value} {base : Heap} {k : Nat} {fA : Addr} {fd : FuncData} {g : List D → R D} (F : FnOk P w K mg base (L2.CX P w) k fA fd ["script"] (spF mg K [.dct] rI g))
    (math : ∀ ns : List Int, ns.length ≤ 63 → g [.list (ns.map PyData.int)] = .ok (.bool true)) : FnOk P w K mg base (L2.CX P w) k fA fd ["script"] (spLaw K) :=
  F.imp fun vs H Q E ⟨a, ns, e, hl, hk, q⟩ => by
    subst e
    refine ⟨[.list (ns.map PyData.int)], .dct (.lst hk (by rw [List.length_map]; exact Nat.le_of_lt (small1000 (by omega))) (im_ints ns)) .nil, ?_⟩
    rw [math ns hl]
    intro v H' _ hv
    cases hv
    exact q H'
theorem spLaw_of {K : PySem.W.Frag} {H : Hp} {a : Addr} {ns : List Int} (hl : ns.length ≤ 63) (hO : Only H) (hS : SqL K H a (ns.map V.int)) : spLaw K [.ref a] H (fun v _ => v = .bl true) fun _ _ _ => False := by
  refine ⟨a, ns, rfl, hl, ?_, fun _ => rfl⟩
  rcases hS with (h | h) | h
  · rcases hO a with z | ⟨o, xs, z⟩ <;> rw [h] at z <;> cases z
  · exact .inl h
  · exact .inr h
theorem cx_none {P : Program} {w : World} {H : Hp} {s : Shared} {e : Value} {s' : Shared} (h : L2.CX P w [] H s (fun _ _ _ => False) e s') : False := by
  obtain ⟨_, _, _, _, _, _, _, _, _, _, _, _, hE⟩ := h
  exact hE
end PL
set_option Elab.async false
set_option linter.all false
set_option maxRecDepth 100000
set_option maxHeartbeats 1000000
/-! PL18: a comprehension within another. -/
namespace PL
open PySem PySem.Spec PyProof.Rows L2
/-- a comprehension's scope, as it stands in its def -/
def relS (s sc0 : Scope) : Scope := { s with names := s.names.map fun (n, k) => if (k == NameKind.free && sc0.kind == .function && sc0.names.lookup n == some .cell) then (n, NameKind.cell) else (n, k) }
theorem relS_eq {s sc0 : Scope} {env : PySem.Env} (h : env.scope = sc0) : relabel s env = relS s sc0 := by subst h; rfl
theorem blkOk_in {N : List Str} {scope1 scope : Scope} {own : List (Str × Nat)} {env : PySem.Env} (sc0 : Scope) (h : blkC N (relS scope1 sc0) scope own = true) (he : env.scope = sc0 := by rfl) : BlkOk N (relabel scope1 env) scope own := by
  rw [relS_eq he]
  exact blkOk_by h
end PL
set_option Elab.async false
set_option linter.all false
set_option maxRecDepth 100000
set_option maxHeartbeats 1000000
/-! PL19: dicts: displays, .get. -/
namespace PL
open PySem PySem.Spec PyProof.Rows L2
inductive Prs (K : PySem.W.Frag) (H : Hp) : List (V × V) → List (D × D) → Prop
  | nil : Prs K H [] []
  | cons {x y : V} {d e : D} {ps : List (V × V)} {ds : List (D × D)} : Im K H x d → Im K H y e → Prs K H ps ds → Prs K H ((x, y) :: ps) ((d, e) :: ds)
theorem Prs.mono {K : PySem.W.Frag} {H H' : Hp} (p : Pers H H') {ps : List (V × V)} {ds : List (D × D)} (h : Prs K H ps ds) : Prs K H' ps ds := by
  induction h with
  | nil => exact .nil
  | cons h1 h2 _ ih => exact .cons (h1.mono p) (h2.mono p) ih
def tPr (K : PySem.W.Frag) (mg : Str → Option Value) (H0 : Hp) (W : XK) (κ : Kds) (fs : Env → R (List (D × D))) : L2.St → Hp → (List (V × V) → Hp → Prop) → Prop := fun σ H Q => ∃ τ, Rep K H0 H κ σ τ ∧ PostA mg W H (fs τ) fun kds => ∀ ps H', Same H H' → Prs K H' ps kds → Q ps H'
structure DPr (X : Cx) (H0 : Hp) (W : XK) (κ : Kds) (pos : Pos) (keys : List (Option Expr)) (values : List Expr) (fs : Env → R (List (D × D))) : Prop where
  ex : ∃ trs, PPs X pos keys values trs ∧ ∀ σ H Q, tPr X.K X.mg H0 W κ fs σ H Q → tPairs trs σ H Q
def pNil : Env → R (List (D × D)) := fun _ => .ok []
def pCons (fk fv : Env → R D) (fs : Env → R (List (D × D))) : Env → R (List (D × D)) := fun τ => (fk τ).bind fun k => (fv τ).bind fun v => (fs τ).bind fun r => .ok ((k, v) :: r)
/-- the pairs put one after the other -/
noncomputable def dMerge (kvs : List (D × D)) : List (D × D) → List (D × D)
  | [] => kvs
  | p :: r => dMerge (dSet kvs p.1 p.2) r
noncomputable def fDisp (fs : Env → R (List (D × D))) : Env → R D := fun τ => (fs τ).bind fun kds => if kds.all (fun p => isKey p.1) = true ∧ kds.length ≤ 15 then .ok (.dict (dMerge [] kds)) else .bad
section
variable {X : Cx} {H0 : Hp} {W : XK} {κ : Kds} {ρ : Res} {e a b c k v : Expr} {f fa fb fc fk fv : Env → R D} {fs : Env → R (List (D × D))} {pos p p2 apos cpos : Pos} {ks : List (Option Expr)} {vs : List Expr}
theorem dpr_nil : DPr X H0 W κ pos [] [] pNil := ⟨[], pps_nil, fun σ H Q ⟨τ, r, q⟩ => q [] H (Same.refl H) .nil⟩
theorem dpr_cons (hk : DE X H0 W κ rI k fk) (hv : DE X H0 W κ rI v fv) (hr : DPr X H0 W κ pos ks vs fs) : DPr X H0 W κ pos (some k :: ks) (v :: vs) (pCons fk fv fs) := by
  obtain ⟨trs, h1, h2⟩ := hr.ex
  exact ⟨_, pps_cons hk.pe hv.pe h1, fun σ H Q ⟨τ, r, q⟩ => ⟨τ, r, PostA.imp (PostA.bind q) fun dk qk x H1 s1 hx => ⟨τ, r.to s1, PostA.imp (PostA.bind (PostA.to qk s1)) fun dv qv y H2 s2 hy => h2 _ _ _ ⟨τ, (r.to s1).to s2, PostA.imp (PostA.bind (PostA.to qv s2)) fun kds q3 ps H3 s3 hp =>
    q3 ((x, y) :: ps) H3 ((s1.trans s2).trans s3) (.cons (hx.mono (Same.pers (s2.trans s3))) (hy.mono (Same.pers s3)) hp)⟩⟩⟩⟩
/-- keyed pairs -/
theorem prs_keys {K : PySem.W.Frag} {H : Hp} : ∀ {ps : List (V × V)} {kds : List (D × D)}, Prs K H ps kds → kds.all (fun p => isKey p.1) = true → ∃ kvs : List (Key × V), ps = kvs.map (fun kv => (kV kv.1, kv.2)) ∧ kds.map (·.1) = kvs.map (fun kv => keyD kv.1) ∧ ImAll K H (kvs.map (·.2)) (kds.map (·.2)) ∧ ∀ p ∈ kvs, kOk p.1
  | _, _, .nil, _ => ⟨[], rfl, rfl, .nil, fun _ h => absurd h List.not_mem_nil⟩
  | _, _, .cons h1 h2 t, h => by
    rw [List.all_cons, Bool.and_eq_true] at h
    obtain ⟨kvs, e1, e2, e3, e4⟩ := prs_keys t h.2
    obtain ⟨k, rfl⟩ := key_of1 h.1
    obtain ⟨rfl, ko⟩ := im_key h1
    refine ⟨(k, _) :: kvs, by rw [e1]; rfl, by rw [List.map_cons, List.map_cons, e2], .cons h2 e3, fun p hp => ?_⟩
    rcases List.mem_cons.mp hp with z | z
    · rw [z]; exact ko
    · exact e4 p z
theorem merge_own {K : PySem.W.Frag} {H : Hp} : ∀ (more : List (Key × V)) (mds : List (D × D)) (kvs : List (Key × V)) (ds : List D), mds.map (·.1) = more.map (fun kv => keyD kv.1) → ImAll K H (more.map (·.2)) (mds.map (·.2)) → (∀ p ∈ more, kOk p.1) → ImAll K H (kvs.map (·.2)) ds → (∀ p ∈ kvs, kOk p.1) →
    ∃ ds', ImAll K H ((mergeK kvs more).map (·.2)) ds' ∧ (∀ p ∈ mergeK kvs more, kOk p.1) ∧ dMerge ((kvs.map fun p => keyD p.1).zip ds) mds = ((mergeK kvs more).map fun p => keyD p.1).zip ds'
  | [], mds, kvs, ds, e, _, _, i2, k2 => by
    have : mds = [] := by simpa using e
    subst this
    exact ⟨ds, i2, k2, rfl⟩
  | q :: more, [], kvs, ds, e, _, _, _, _ => by simp at e
  | q :: more, m :: mds, kvs, ds, e, i1, k1, i2, k2 => by
    rw [List.map_cons, List.map_cons] at e
    injection e with e1 e2
    rw [List.map_cons, List.map_cons] at i1
    cases i1 with
    | cons h1 t1 =>
      have hl : kvs.length = ds.length := by have := i2.length; simpa using this
      obtain ⟨ds1, _, s1, im1⟩ := zip_K hl q.1 q.2 m.2
      have kp : ∀ p ∈ putK kvs q.1 q.2, kOk p.1 := fun p hp => by
        unfold putK at hp
        split at hp
        · obtain ⟨q0, hq0, rfl⟩ := List.mem_map.mp hp
          have := k2 q0 hq0
          split <;> exact this
        · rcases List.mem_append.mp hp with hp | hp
          · exact k2 p hp
          · rw [List.mem_singleton.mp hp]; exact k1 q List.mem_cons_self
      obtain ⟨ds', a1, a2, a3⟩ := merge_own more mds (putK kvs q.1 q.2) ds1 e2 t1 (fun p hp => k1 p (List.mem_cons_of_mem _ hp)) (im1 _ _ i2 h1) kp
      refine ⟨ds', a1, a2, ?_⟩
      show dMerge (dSet _ m.1 m.2) mds = _
      rw [e1, s1]
      exact a3
theorem de_disp (h : DPr X H0 W κ pos ks vs fs) (hall : ks.all (·.isSome) = true := by rfl) (hl : ks.length = vs.length := by rfl) (h0 : ks ≠ [] := by exact nofun) (h15 : ks.length ≤ 15 := by decide) : DE X H0 W κ rM (.Dict ks vs pos) (fDisp fs) := by
  obtain ⟨trs, h1, h2⟩ := h.ex
  refine ⟨(pe_disp h1 hall hl h0 h15).cons fun σ H Q ⟨τ, r, q⟩ => fun p n => h2 _ _ _ ⟨τ, r.to (same_upd n), PostA.imp (PostA.to (PostA.bind q) (same_upd n)) fun kds qd ps H2 s2 hp => ?_⟩⟩
  by_cases ok : kds.all (fun p => isKey p.1) = true ∧ kds.length ≤ 15
  · rw [if_pos ok] at qd
    obtain ⟨kvs, e1, e2, e3, e4⟩ := prs_keys hp ok.1
    have hd : H2 p = some (.dK []) := s2 _ _ upd_same
    have ml : kvs.length = kds.length := by have := congrArg List.length e2; simpa using this.symm
    refine ⟨hd, kvs, e1, by omega, ?_⟩
    have m : Mut (H2 p) := by rw [hd]; trivial
    have pu : Pers H2 (upd H2 p (.dK (mergeK [] kvs))) := pers_upd m
    obtain ⟨ds', a1, a2, a3⟩ := merge_own (K := X.K) (H := H2) kvs kds [] [] e2 e3 e4 .nil (fun _ h => absurd h List.not_mem_nil)
    have sm : Same H (upd H2 p (.dK (mergeK [] kvs))) := same_put ((same_upd n).trans s2) n
    refine qd _ _ sm ⟨p, _, rfl, rfl, n, ?_⟩
    have a3' : dMerge [] kds = ((mergeK [] kvs).map fun p => keyD p.1).zip ds' := a3
    rw [a3']
    exact .dK upd_same a2 (a1.mono pu)
  · rw [if_neg ok] at qd; exact qd.elim
/-! .get -/
def dDict : D → R (List (D × D))
  | .dict kvs => .ok kvs
  | _ => .bad
noncomputable def dGetO (kvs : List (D × D)) (k e : D) : R D := if keyFit kvs k = true then .ok ((dFind kvs k).getD e) else .bad
noncomputable def fGet2 (fa fk fe : Env → R D) : Env → R D := fun τ => (fa τ).bind fun d => (dDict d).bind fun kvs => (fk τ).bind fun k => (fe τ).bind fun e => dGetO kvs k e
noncomputable def fGet1 (fa fk : Env → R D) : Env → R D := fun τ => (fa τ).bind fun d => (dDict d).bind fun kvs => (fk τ).bind fun k => dGetO kvs k .none
theorem isD_of {K : PySem.W.Frag} {H H' : Hp} {x : V} {kvs : List (D × D)} (h : rD K H H' x (.dict kvs)) : ∃ a, x = .ref a ∧ IsD H' a := by
  obtain ⟨a, rfl, ⟨ks, ds, r1, _⟩ | ⟨ks, ds, r1, _⟩⟩ := rD_dict h
  · exact ⟨a, rfl, .inl ⟨_, r1⟩⟩
  · exact ⟨a, rfl, .inr ⟨_, r1⟩⟩
theorem de_get2 (hu : X.A.units + 65 < cLine) (ha : DE X H0 W κ rD a fa) (hb : DE X H0 W κ rI b fb) (hc : DE X H0 W κ rI c fc) (m : M2 X a "get" apos b c cpos := by exact ⟨rfl, rfl, rfl, rfl⟩) : DE X H0 W κ rI (.Call (.Attribute a "get" apos) [b, c] [] cpos) (fGet2 fa fb fc) :=
  ⟨(pe_dget2 (by omega) ha.pe hb.pe hc.pe m).cons fun σ H Q ⟨τ, r, q⟩ => ⟨τ, r, PostA.imp (PostA.bind q) fun d pd x H1 s1 hx => by
    cases d <;> try exact pd.elim
    rename_i kvs
    have pd : PostA X.mg W H ((fb τ).bind fun k => (fc τ).bind fun e => dGetO kvs k e) _ := pd
    obtain ⟨a, rfl, ia⟩ := isD_of hx
    refine ⟨a, rfl, ia, τ, r.to s1, PostA.imp (PostA.bind (PostA.to pd s1)) fun k pk y H2 s2 hy => ⟨τ, (r.to s1).to s2, PostA.imp (PostA.bind (PostA.to pk s2)) fun e pe z H3 s3 hz => ?_⟩⟩
    unfold dGetO at pe
    by_cases hf : keyFit kvs k = true
    · rw [if_pos hf] at pe
      obtain ⟨a', o, ea, g, mm⟩ := dget_of (H0 := H) (rD.same (s2.trans s3) hx) (.inl (hy.mono (Same.pers s3))) hf
      cases ea
      refine ⟨o, g, pe _ H3 ((s1.trans s2).trans s3) ?_⟩
      cases hq : dFind kvs k with
      | none => rw [hq] at mm; rw [show o = none from mm]; exact hz
      | some d => rw [hq] at mm; obtain ⟨v, rfl, iv⟩ := mm; exact iv
    · rw [if_neg hf] at pe; exact pe.elim⟩⟩
theorem de_get1 (hu : X.A.units + 65 < cLine) (ha : DE X H0 W κ rD a fa) (hb : DE X H0 W κ rI b fb) (m : M1 X a "get" apos b cpos := by exact ⟨rfl, rfl, rfl, rfl⟩) : DE X H0 W κ rI (.Call (.Attribute a "get" apos) [b] [] cpos) (fGet1 fa fb) :=
  ⟨(pe_dget1 (by omega) ha.pe hb.pe m).cons fun σ H Q ⟨τ, r, q⟩ => ⟨τ, r, PostA.imp (PostA.bind q) fun d pd x H1 s1 hx => by
    cases d <;> try exact pd.elim
    rename_i kvs
    have pd : PostA X.mg W H ((fb τ).bind fun k => dGetO kvs k .none) _ := pd
    obtain ⟨a, rfl, ia⟩ := isD_of hx
    refine ⟨a, rfl, ia, τ, r.to s1, PostA.imp (PostA.bind (PostA.to pd s1)) fun k pk y H2 s2 hy => ?_⟩
    unfold dGetO at pk
    by_cases hf : keyFit kvs k = true
    · rw [if_pos hf] at pk
      obtain ⟨a', o, ea, g, mm⟩ := dget_of (H0 := H) (rD.same s2 hx) (.inl hy) hf
      cases ea
      refine ⟨o, g, pk _ H2 (s1.trans s2) ?_⟩
      cases hq : dFind kvs k with
      | none => rw [hq] at mm; rw [show o = none from mm]; exact .non
      | some d => rw [hq] at mm; obtain ⟨v, rfl, iv⟩ := mm; exact iv
    · rw [if_neg hf] at pk; exact pk.elim⟩⟩
end
end PL
set_option Elab.async false
set_option linter.all false
set_option maxRecDepth 100000
set_option maxHeartbeats 1000000
/-! PL20: dict comprehensions. -/
namespace PL
open PySem PySem.Spec PyProof.Rows L2
noncomputable def dcGo (b : D → Env → R Env) (c : Env → R Bool) (fk fv : Env → R D) (τ0 : Env) : List D → List (D × D) → R (List (D × D))
  | [], kvs => .ok kvs
  | d :: ds, kvs => (b d τ0).bind fun τ1 => (c τ1).bind fun k => if k = true then (fk τ1).bind fun x => (fv τ1).bind fun y => if isKey x = true ∧ kvs.length < sizeLine then dcGo b c fk fv τ0 ds (dSet kvs x y) else .bad else dcGo b c fk fv τ0 ds kvs
noncomputable def fDc (vs : List Nat) (it : Env → R (List D)) (b : D → Env → R Env) (c : Env → R Bool) (fk fv : Env → R D) : Env → R D := fun τ => (it τ).bind fun ds => (dcGo b c fk fv (wipeE τ vs) ds []).calm.bind fun kvs => .ok (.dict kvs)
section
variable {X : Cx} {H0 : Hp} {W : XK} {κ κ' : Kds} {tg iter kx vx c : Expr} {ifs : List Expr} {vs ws : List Nat} {b : D → Env → R Env} {fi : Env → R (List D)} {fc : Env → R Bool} {fk fv : Env → R D} {pos : Pos} {scope : Scope} {own : List (Str × Nat)}
theorem tDc_of {σ : L2.St} {H : Hp} {Q : VK} (hsub : ∀ j ∈ ws, j ∈ vs) (h : tD X.K X.mg H0 W κ rM (fDc vs fi b fc fk fv) σ H Q) :
    tDc (tI X.K X.mg H0 W κ fi) (gD X.K H0 (wipeK κ vs) κ' ws b) (tT X.K X.mg H0 E0 κ' fc) (tD X.K X.mg H0 E0 κ' rI fk) (tD X.K X.mg H0 E0 κ' rI fv) vs σ H Q := by
  obtain ⟨τ, r, q⟩ := h
  refine ⟨τ, r, PostA.imp (PostA.bind q) fun ds qd J H1 s1 ok D nD => ?_⟩
  obtain ⟨res, eres, qr⟩ := lc_ok (PostA.bind qd)
  have sD : ∀ {H o}, Same H1 H → Same H1 (upd H D o) := fun s => same_put s nD
  refine ⟨fun i m H => i + m = ds.length ∧ ∃ ks vds, H D = some (.dK ks) ∧ ImAll X.K H (ks.map (·.2)) vds ∧ (∀ p ∈ ks, kOk p.1) ∧ Same H1 H ∧ dcGo b fc fk fv (wipeE τ vs) (ds.drop i) ((ks.map fun p => keyD p.1).zip vds) = .ok res,
    ⟨ds.length, by omega, [], [], upd_same, .nil, fun _ h => absurd h List.not_mem_nil, sD (Same.refl _), by simpa using eres⟩, fun i m H2 hW => ?_⟩
  obtain ⟨em, ks, vds, hD, ia, ko, s2, ez⟩ := hW
  by_cases hi : i < ds.length
  · refine .inr ⟨ok.go H2 i (Same.pers s2) hi, fun H' => i + 1 + (m - 1) = ds.length ∧ ∃ ks vds, H' D = some (.dK ks) ∧ ImAll X.K H' (ks.map (·.2)) vds ∧ (∀ p ∈ ks, kOk p.1) ∧ Same H1 H' ∧ dcGo b fc fk fv (wipeE τ vs) (ds.drop (i + 1)) ((ks.map fun p => keyD p.1).zip vds) = .ok res,
      fun H' hN => ⟨m - 1, by omega, hN⟩, fun x H3 hy => ?_⟩
    have hd : ds[i]? = some ds[i] := List.getElem?_eq_getElem hi
    obtain ⟨s3, ix⟩ := ok.yld H2 i x H3 ds[i] (Same.pers s2) hy hd
    rw [List.drop_eq_getElem_cons hi] at ez
    unfold dcGo at ez
    obtain ⟨τ1, eb, ez⟩ := bind_ok' ez
    obtain ⟨k, ec, ez⟩ := bind_ok' ez
    have rw0 : Rep X.K H0 H3 (wipeK κ vs) (wipe σ vs) (wipeE τ vs) := ((r.to s1).wipe vs).to (s2.trans s3)
    refine ⟨wipeE τ vs, ds[i], rw0, ix, ?_⟩
    rw [eb]
    intro σ2 r2 k2
    refine ⟨wipe_eq (by rw [k2.1, wipe_length]) k2.2 hsub, τ1, r2, ?_⟩
    rw [ec]
    intro H4 s4
    have hD4 : H4 D = some (.dK ks) := s4 _ _ (s3 _ _ hD)
    have s14 : Same H1 H4 := s2.trans (s3.trans s4)
    have ia4 : ImAll X.K H4 (ks.map (·.2)) vds := ia.mono (Same.pers (s3.trans s4))
    cases k with
    | true =>
      rw [if_pos rfl] at ez ⊢
      obtain ⟨xk, ek, ez⟩ := bind_ok' ez
      obtain ⟨xv, ev, ez⟩ := bind_ok' ez
      refine ⟨τ1, r2.to s4, ?_⟩
      rw [ek]
      intro y H5 s5 iy
      refine ⟨τ1, (r2.to s4).to s5, ?_⟩
      rw [ev]
      intro z H6 s6 iz
      by_cases okk : isKey xk = true ∧ ((ks.map fun p => keyD p.1).zip vds).length < sizeLine
      · rw [if_pos okk] at ez
        obtain ⟨kk, rfl⟩ := key_of1 okk.1
        obtain ⟨rfl, kok⟩ := im_key iy
        have hl : ks.length = vds.length := by have := ia.length; simpa using this
        obtain ⟨vds', l', e', i'⟩ := zip_K hl kk z xv
        have hD6 : H6 D = some (.dK ks) := s6 _ _ (s5 _ _ hD4)
        have m6 : Mut (H6 D) := by rw [hD6]; trivial
        have pu : Pers H6 (upd H6 D (.dK (putK ks kk z))) := pers_upd m6
        refine ⟨ks, kk, rfl, hD6, by have := okk.2; simp [hl] at this; omega, by omega, putK ks kk z, vds', upd_same, (i' _ _ (ia4.mono (Same.pers (s5.trans s6))) iz).mono pu, fun p hp => ?_, sD (s14.trans (s5.trans s6)), by rw [← e']; exact ez⟩
        unfold putK at hp
        split at hp
        · obtain ⟨q0, hq0, rfl⟩ := List.mem_map.mp hp
          have := ko q0 hq0
          split <;> exact this
        · rcases List.mem_append.mp hp with hp | hp
          · exact ko p hp
          · rw [List.mem_singleton.mp hp]; exact kok
      · rw [if_neg okk] at ez; cases ez
    | false =>
      rw [if_neg (by decide)] at ez ⊢
      exact ⟨by omega, ks, vds, hD4, ia4, ko, s14, ez⟩
  · refine .inl ⟨ok.stop H2 i (Same.pers s2) (by omega), ?_⟩
    have ei : ds.drop i = [] := List.drop_eq_nil_of_le (by omega)
    rw [ei] at ez
    cases ez
    exact qr (.ref D) H2 (s1.trans s2) ⟨D, _, rfl, rfl, s1.free nD, .dK hD ko ia⟩
theorem de_dc (hc : X.calm = true) (hN : X.N.Nodup) (hi : DI X H0 W κ tg iter fi) (ok : BlkOk X.N X.env.scope scope own) (hvs : own.map (·.2) = vs)
    (hg : ∀ (s : Shared) (H : Hp) (C : Addr) (cl : List (Str × Addr)) (fp : List Addr), DP (X.blk s H scope (compEnvC scope cl C X.env) fp) H0 (wipeK κ vs) tg ws b κ')
    (ht : ∀ (s : Shared) (H : Hp) (C : Addr) (cl : List (Str × Addr)) (fp : List Addr), DTs (X.blk s H scope (compEnvC scope cl C X.env) fp) H0 E0 κ' ifs fc)
    (hk : ∀ (s : Shared) (H : Hp) (C : Addr) (cl : List (Str × Addr)) (fp : List Addr), DE (X.blk s H scope (compEnvC scope cl C X.env) fp) H0 E0 κ' rI kx fk)
    (he : ∀ (s : Shared) (H : Hp) (C : Addr) (cl : List (Str × Addr)) (fp : List Addr), DE (X.blk s H scope (compEnvC scope cl C X.env) fp) H0 E0 κ' rI vx fv)
    (hsub : ∀ j ∈ ws, j ∈ vs := by decide) (hs : ∀ x, foldedSetIterable iter X.env x = pure x := by intro _; rfl) : DE X H0 W κ rM (.DictComp kx vx [⟨tg, iter, ifs, 0⟩] scope pos) (fDc vs fi b fc fk fv) :=
  ⟨(pe_dc (g := gD X.K H0 (wipeK κ vs) κ' ws b) (tt := tT X.K X.mg H0 E0 κ' fc) (tk := tD X.K X.mg H0 E0 κ' rI fk) (tv := tD X.K X.mg H0 E0 κ' rI fv) hc hN hi.pi ok (fun s H C cl fp => (hg s H C cl fp).pg) (fun s H C cl fp => (ht s H C cl fp).pt) (fun s H C cl fp => (hk s H C cl fp).pe) (fun s H C cl fp => (he s H C cl fp).pe) hs).cons
    fun σ H Q h => by rw [hvs]; exact tDc_of hsub h⟩
end
end PL
set_option Elab.async false
set_option linter.all false
set_option maxRecDepth 100000
set_option maxHeartbeats 1000000
/-! PL21: zip whose tuples are kept (the target is a name). -/
namespace PL
open PySem PySem.Spec PyProof.Rows L2
/-- a zip object: the tuple that it gave out (or none), whether it was seen held -/
abbrev ZV (h : Heap) (z TI TO : Addr) (v : Value) (f : Bool) : Prop :=
  h.get? z = some { cls := .type "zip", dict := none, data := .fields #[v, .bool f, .bool false, .ref TI, .ref TO], slots := #[] }
def OutV (v : Value) : Prop := v = .none ∨ ∃ T : Addr, v = rawInt T
section
variable {prog : Program} {w : World} {A : Around} {E : Value → Shared → Prop} {s : Shared}
theorem zv_alive {a : Addr} {Q : Option Obj → Shared → Prop} (h : Q (s.heap.get? a) s) : wpAny (model prog w) A (loadIfAlive a) Q E s :=
  fun _ _ _ => h
theorem zv_free {z TI TO : Addr} {v : Value} {f : Bool} {Q : Bool → Shared → Prop} (hz : ZV s.heap z TI TO v f) (hv : OutV v)
    (h1 : Q true s) (h2 : ∀ h', ZV h' z TI TO v true → Heap.SameBut z s.heap h' → Q false { s with heap := h' }) :
    wpAny (model prog w) A (Builtin.SmallTypes.ownedTupleIsFree (.ref z)) Q E s := by
  unfold Builtin.SmallTypes.ownedTupleIsFree
  rcases hv with rfl | ⟨T, rfl⟩
  · exact wpAny_bind (wpAny_field hz rfl (x := .none) rfl (wpAny_pure h1))
  · refine wpAny_bind (wpAny_field hz rfl (x := rawInt T) rfl ?_)
    show wpAny _ _ (loadIfAlive ((T : Int).toNat) >>= _) _ _ _
    rw [Int.toNat_natCast]
    refine wpAny_bind (zv_alive ?_)
    cases hT : s.heap.get? T with
    | none =>
      simp only [Option.isNone_none, if_true]
      exact wpAny_pure h1
    | some oT =>
      simp only [Option.isNone_some, Bool.false_eq_true, if_false]
      refine wpAny_bind (wpAny_field hz rfl (x := .bool f) rfl ?_)
      cases f with
      | true =>
        rw [if_neg (show ¬ ((Value.bool true != Value.bool true) = true) from Bool.false_ne_true)]
        exact wpAny_pure (h2 s.heap hz (Heap.SameBut.refl _ _))
      | false =>
        rw [if_pos (show (Value.bool false != Value.bool true) = true from rfl)]
        exact wpAny_bind (wpAny_setField_rec hz (by simp) fun h₁ hz₁ hs₁ => wpAny_pure (h2 h₁ hz₁ hs₁))

theorem zvT_item {z TI TO i1 i2 l1 l2 : Addr} {k1 k2 : Nat} {v : Value} {f : Bool} {xs ys : Array Value} {x y a b : Value} {Q : Value → Shared → Prop} (D : ZipApart z TI TO i1 i2 l1 l2) (hv : OutV v)
    (hz : ZV s.heap z TI TO v f) (hTI : IsPair s.heap TI (.ref i1) (.ref i2)) (hTO : IsPair s.heap TO a b)
    (h1 : s.heap.IsTupleIter i1 l1 k1) (h2 : s.heap.IsTupleIter i2 l2 k2) (hl1 : s.heap.IsTuple l1 xs) (hl2 : s.heap.IsTuple l2 ys) (hx : xs[k1]? = some x) (hy : ys[k2]? = some y)
    (hQ : ∀ h' v' f', OutV v' → ZV h' z TI TO v' f' → (∃ a b, IsPair h' TO a b) → h'.IsTupleIter i1 l1 (k1 + 1) → h'.IsTupleIter i2 l2 (k2 + 1) → IsPair h' s.heap.objs.size x y → h'.objs.size = s.heap.objs.size + 1 →
      (∀ c o, c ≠ z → c ≠ TO → c ≠ i1 → c ≠ i2 → s.heap.get? c = some o → h'.get? c = some o) → Q (.ref s.heap.objs.size) { s with heap := h' }) :
    wpAny (model prog w) A (Builtin.«zip.__next__» ⟨[.ref z], []⟩) (fun fin s' => ∃ v, fin = .done (.ret v) ∧ Q v s') E s := by
  show wpAny _ _ (field (.ref z) 2 >>= _) _ _ _
  refine wpAny_bind (wpAny_field hz rfl (x := .bool false) rfl ?_)
  show wpAny _ _ (field (.ref z) 3 >>= _) _ _ _
  refine wpAny_bind (wpAny_field hz rfl (x := .ref TI) rfl ?_)
  refine wpAny_bind (wpAny_seqItems hTI rfl ?_)
  show wpAny _ _ (Builtin.SmallTypes.ownedTupleIsFree (.ref z) >>= _) _ _ _
  refine wpAny_bind (zv_free hz hv ?_ fun h₁ hz₁ hs₁ => ?_)
  · simp only [if_true]
    refine wpAny_bind (wpAny_rule ?_)
    refine wpAny_bind (wpAny_field hz rfl (x := .ref TO) rfl ?_)
    refine wpAny_bind (wpAny_setField_rec hz (by simp) fun h₁ hz₁ hs₁ => ?_)
    replace hz₁ : ZV h₁ z TI TO .ellipsis f := hz₁
    refine wpAny_bind ?_
    simp only [List.zipIdx_cons, List.zipIdx_nil, List.forIn_cons, List.forIn_nil]
    refine wpAny_bind (wpAny_bind (wpAny_onRaise ?_))
    show wpAny _ _ (Builtin.SmallTypes.nextOf (.ref i1) >>= _) _ _ _
    refine wpAny_bind (RZ.nextOf_tuple_item (s := { s with heap := h₁ }) (h1.extBut hs₁.extBut D.i1z) (hl1.extBut hs₁.extBut D.l1z) hx fun h₂ h1₂ hs₂ => wpAny_pure ?_)
    have hTO₂ : IsPair h₂ TO a b := hs₂.extBut _ _ D.TOi1 (hs₁.extBut _ _ D.TOz hTO)
    refine wpAny_bind (wpAny_seqItems hTO₂ rfl ?_)
    refine wpAny_bind (wpAny_updateSeq_pair hTO₂ fun h₃ hTO₃ hs₃ => ?_)
    replace hTO₃ : IsPair h₃ TO x b := hTO₃
    refine wpAny_bind (wpAny_letGo (wpAny_pure ?_))
    refine wpAny_bind (wpAny_bind (wpAny_onRaise ?_))
    show wpAny _ _ (Builtin.SmallTypes.nextOf (.ref i2) >>= _) _ _ _
    refine wpAny_bind (RZ.nextOf_tuple_item (s := { s with heap := h₃ }) (((h2.extBut hs₁.extBut D.i2z).extBut hs₂.extBut D.i12.symm).extBut hs₃.extBut D.TOi2.symm)
      (((hl2.extBut hs₁.extBut D.l2z).extBut hs₂.extBut D.l2i1).extBut hs₃.extBut D.l2TO) hy fun h₄ h2₄ hs₄ => wpAny_pure ?_)
    have hTO₄ : IsPair h₄ TO x b := hs₄.extBut _ _ D.TOi2 hTO₃
    refine wpAny_bind (wpAny_seqItems hTO₄ rfl ?_)
    refine wpAny_bind (wpAny_updateSeq_pair hTO₄ fun h₅ hTO₅ hs₅ => ?_)
    replace hTO₅ : IsPair h₅ TO x y := hTO₅
    refine wpAny_bind (wpAny_letGo (wpAny_pure (wpAny_pure ?_)))
    refine wpAny_bind (wpAny_seqItems hTO₅ rfl ?_)
    refine wpAny_bind (wpAny_newTuple ?_)
    have hsz : h₅.objs.size = s.heap.objs.size := by rw [hs₅.1, hs₄.1, hs₃.1, hs₂.1, hs₁.1]
    have hz₅ : ZV h₅ z TI TO .ellipsis f := hs₅.extBut _ _ D.TOz.symm (hs₄.extBut _ _ D.i2z.symm (hs₃.extBut _ _ D.TOz.symm (hs₂.extBut _ _ D.i1z.symm hz₁)))
    have hk₅ : ∀ c o, c ≠ z → c ≠ TO → c ≠ i1 → c ≠ i2 → s.heap.get? c = some o → h₅.get? c = some o := fun c o c1 c2 c3 c4 e =>
      hs₅.extBut _ _ c2 (hs₄.extBut _ _ c4 (hs₃.extBut _ _ c2 (hs₂.extBut _ _ c3 (hs₁.extBut _ _ c1 e))))
    have h1₅ : h₅.IsTupleIter i1 l1 (k1 + 1) := ((h1₂.extBut hs₃.extBut D.TOi1.symm).extBut hs₄.extBut D.i12).extBut hs₅.extBut D.TOi1.symm
    have h2₅ : h₅.IsTupleIter i2 l2 (k2 + 1) := h2₄.extBut hs₅.extBut D.TOi2.symm
    have hzlt : z < h₅.objs.size := Heap.lt_size hz₅
    show wpAny _ _ (Builtin.SmallTypes.ownedTupleHandOut (.ref z) (.ref h₅.objs.size) >>= _) _ _ _
    refine wpAny_bind ?_
    unfold Builtin.SmallTypes.ownedTupleHandOut
    have hz₆ : ZV (h₅.push { cls := .type "tuple", data := .seq #[x, y] }) z TI TO .ellipsis f := Heap.get?_push_of_some _ hz₅
    refine wpAny_bind (wpAny_setField_rec hz₆ (by simp) fun h₇ hz₇ hs₇ => ?_)
    replace hz₇ : ZV h₇ z TI TO (rawInt h₅.objs.size) f := hz₇
    refine wpAny_setField_rec hz₇ (by simp) fun h₈ hz₈ hs₈ => ?_
    replace hz₈ : ZV h₈ z TI TO (rawInt h₅.objs.size) false := hz₈
    have up : ∀ c o, c ≠ z → h₅.get? c = some o → h₈.get? c = some o := fun c o c1 e => hs₈.extBut _ _ c1 (hs₇.extBut _ _ c1 (Heap.get?_push_of_some _ e))
    have hT₈ : IsPair h₈ h₅.objs.size x y := hs₈.extBut _ _ (Nat.ne_of_gt hzlt) (hs₇.extBut _ _ (Nat.ne_of_gt hzlt) (Heap.get?_push_size _ rfl))
    have hz8 : h₈.objs.size = h₅.objs.size + 1 := by rw [hs₈.1, hs₇.1, Heap.size_push]
    rw [hsz] at hz₈ hT₈ hz8
    refine wpAny_pure ⟨_, rfl, ?_⟩
    show Q (.ref h₅.objs.size) _
    rw [hsz]
    exact hQ h₈ _ _ (.inr ⟨_, rfl⟩) hz₈ ⟨_, _, up _ _ D.TOz hTO₅⟩ (h1₅.at fun o e => up _ o D.i1z e) (h2₅.at fun o e => up _ o D.i2z e) hT₈ hz8 fun c o c1 c2 c3 c4 e => up c o c1 (hk₅ c o c1 c2 c3 c4 e)
  · replace hz₁ : ZV h₁ z TI TO v true := hz₁
    simp only [Bool.false_eq_true, if_false]
    refine wpAny_bind ?_
    rw [← Array.forIn_toList]
    simp only [List.forIn_cons, List.forIn_nil]
    refine wpAny_bind (wpAny_bind (wpAny_holding ?_))
    show wpAny _ _ (Builtin.SmallTypes.nextOf (.ref i1) >>= _) _ _ _
    refine wpAny_bind (RZ.nextOf_tuple_item (s := { s with heap := h₁ }) (h1.extBut hs₁.extBut D.i1z) (hl1.extBut hs₁.extBut D.l1z) hx fun h₂ h1₂ hs₂ => wpAny_pure ?_)
    refine wpAny_pure ?_
    refine wpAny_bind (wpAny_bind (wpAny_holding ?_))
    show wpAny _ _ (Builtin.SmallTypes.nextOf (.ref i2) >>= _) _ _ _
    refine wpAny_bind (RZ.nextOf_tuple_item (s := { s with heap := h₂ }) ((h2.extBut hs₁.extBut D.i2z).extBut hs₂.extBut D.i12.symm) ((hl2.extBut hs₁.extBut D.l2z).extBut hs₂.extBut D.l2i1) hy fun h₃ h2₃ hs₃ => wpAny_pure ?_)
    refine wpAny_pure (wpAny_pure ?_)
    show wpAny _ _ (newTuple [x, y] >>= _) _ _ _
    refine wpAny_bind (wpAny_newTuple ?_)
    have hsz : h₃.objs.size = s.heap.objs.size := by rw [hs₃.1, hs₂.1, hs₁.1]
    have hz₃ : ZV h₃ z TI TO v true := hs₃.extBut _ _ D.i2z.symm (hs₂.extBut _ _ D.i1z.symm hz₁)
    have hk : ∀ c o, c ≠ z → c ≠ i1 → c ≠ i2 → s.heap.get? c = some o → h₃.get? c = some o := fun c o c1 c2 c3 e => hs₃.extBut _ _ c3 (hs₂.extBut _ _ c2 (hs₁.extBut _ _ c1 e))
    have h1₃ : h₃.IsTupleIter i1 l1 (k1 + 1) := h1₂.extBut hs₃.extBut D.i12
    refine wpAny_pure ⟨_, rfl, ?_⟩
    show Q (.ref h₃.objs.size) _
    have hp : IsPair (h₃.push { cls := .type "tuple", data := .seq #[x, y] }) h₃.objs.size x y := Heap.get?_push_size _ rfl
    have hz4 : (h₃.push { cls := .type "tuple", data := .seq #[x, y] }).objs.size = h₃.objs.size + 1 := Heap.size_push ..
    rw [hsz] at hp hz4 ⊢
    exact hQ _ v true hv (Heap.get?_push_of_some _ hz₃) ⟨a, b, Heap.get?_push_of_some _ (hk _ _ D.TOz D.TOi1 D.TOi2 hTO)⟩ (h1₃.at fun o e => Heap.get?_push_of_some _ e) (h2₃.at fun o e => Heap.get?_push_of_some _ e) hp hz4 fun c o c1 _ c3 c4 e => Heap.get?_push_of_some _ (hk c o c1 c3 c4 e)
theorem zvT_end {z TI TO i1 i2 l1 l2 : Addr} {k1 k2 : Nat} {v : Value} {f : Bool} {xs ys : Array Value} {a b : Value} {Q : Fin → Shared → Prop} (hh : A.handled = none) (D : ZipApart z TI TO i1 i2 l1 l2) (hv : OutV v)
    (hz : ZV s.heap z TI TO v f) (hTI : IsPair s.heap TI (.ref i1) (.ref i2)) (hTO : IsPair s.heap TO a b)
    (h1 : s.heap.IsTupleIter i1 l1 k1) (h2 : s.heap.IsTupleIter i2 l2 k2) (hl1 : s.heap.IsTuple l1 xs) (hl2 : s.heap.IsTuple l2 ys) (hend : xs[k1]? = none ∨ ys[k2]? = none)
    (hE : ∀ h' e, (∀ c o, c ≠ z → c ≠ TO → c ≠ i1 → c ≠ i2 → s.heap.get? c = some o → h'.get? c = some o) → (∃ o, h'.get? e = some o ∧ o.cls = .type "StopIteration") → E (.ref e) { s with heap := h' }) :
    wpAny (model prog w) A (Builtin.«zip.__next__» ⟨[.ref z], []⟩) Q E s := by
  show wpAny _ _ (field (.ref z) 2 >>= _) _ _ _
  refine wpAny_bind (wpAny_field hz rfl (x := .bool false) rfl ?_)
  show wpAny _ _ (field (.ref z) 3 >>= _) _ _ _
  refine wpAny_bind (wpAny_field hz rfl (x := .ref TI) rfl ?_)
  refine wpAny_bind (wpAny_seqItems hTI rfl ?_)
  show wpAny _ _ (Builtin.SmallTypes.ownedTupleIsFree (.ref z) >>= _) _ _ _
  refine wpAny_bind (zv_free hz hv ?_ fun h₁ hz₁ hs₁ => ?_)
  · simp only [if_true]
    refine wpAny_bind (wpAny_rule ?_)
    refine wpAny_bind (wpAny_field hz rfl (x := .ref TO) rfl ?_)
    refine wpAny_bind (wpAny_setField_rec hz (by simp) fun h₁ hz₁ hs₁ => ?_)
    replace hz₁ : ZV h₁ z TI TO .ellipsis f := hz₁
    refine wpAny_bind ?_
    simp only [List.zipIdx_cons, List.zipIdx_nil, List.forIn_cons, List.forIn_nil]
    refine wpAny_bind (wpAny_bind (wpAny_onRaise ?_))
    show wpAny _ _ (Builtin.SmallTypes.nextOf (.ref i1) >>= _) _ _ _
    cases hx : xs[k1]? with
    | none =>
      refine wpAny_bind (RZ.nextOf_tuple_end (s := { s with heap := h₁ }) hh (h1.extBut hs₁.extBut D.i1z) (hl1.extBut hs₁.extBut D.l1z) hx fun h₂ e hs₂ he => ?_)
      obtain ⟨oe, hoe, hce⟩ := he
      have hz₂ : ZV h₂ z TI TO .ellipsis f := hs₂ _ _ D.i1z.symm hz₁
      have hez : e ≠ z := fun x => by subst x; rw [hz₂] at hoe; cases hoe; simp at hce
      refine wpAny_setField_rec hz₂ (by simp) fun h₃ _ hs₃ => hE h₃ e (fun c o c1 _ c3 _ x => hs₃.extBut _ _ c1 (hs₂ _ _ c3 (hs₁.extBut _ _ c1 x))) ⟨oe, hs₃.extBut _ _ hez hoe, hce⟩
    | some x =>
      have hy : ys[k2]? = none := by rcases hend with h | h; rw [hx] at h; cases h; exact h
      refine wpAny_bind (RZ.nextOf_tuple_item (s := { s with heap := h₁ }) (h1.extBut hs₁.extBut D.i1z) (hl1.extBut hs₁.extBut D.l1z) hx fun h₂ h1₂ hs₂ => wpAny_pure ?_)
      have hTO₂ : IsPair h₂ TO a b := hs₂.extBut _ _ D.TOi1 (hs₁.extBut _ _ D.TOz hTO)
      refine wpAny_bind (wpAny_seqItems hTO₂ rfl ?_)
      refine wpAny_bind (wpAny_updateSeq_pair hTO₂ fun h₃ hTO₃ hs₃ => ?_)
      refine wpAny_bind (wpAny_letGo (wpAny_pure ?_))
      refine wpAny_bind (wpAny_bind (wpAny_onRaise ?_))
      show wpAny _ _ (Builtin.SmallTypes.nextOf (.ref i2) >>= _) _ _ _
      refine wpAny_bind (RZ.nextOf_tuple_end (s := { s with heap := h₃ }) hh (((h2.extBut hs₁.extBut D.i2z).extBut hs₂.extBut D.i12.symm).extBut hs₃.extBut D.TOi2.symm)
        (((hl2.extBut hs₁.extBut D.l2z).extBut hs₂.extBut D.l2i1).extBut hs₃.extBut D.l2TO) hy fun h₄ e hs₄ he => ?_)
      obtain ⟨oe, hoe, hce⟩ := he
      have hz₄ : ZV h₄ z TI TO .ellipsis f := hs₄ _ _ D.i2z.symm (hs₃.extBut _ _ D.TOz.symm (hs₂.extBut _ _ D.i1z.symm hz₁))
      have hez : e ≠ z := fun x => by subst x; rw [hz₄] at hoe; cases hoe; simp at hce
      refine wpAny_setField_rec hz₄ (by simp) fun h₅ _ hs₅ => hE h₅ e (fun c o c1 c2 c3 c4 x => hs₅.extBut _ _ c1 (hs₄ _ _ c4 (hs₃.extBut _ _ c2 (hs₂.extBut _ _ c3 (hs₁.extBut _ _ c1 x))))) ⟨oe, hs₅.extBut _ _ hez hoe, hce⟩
  · simp only [Bool.false_eq_true, if_false]
    refine wpAny_bind ?_
    rw [← Array.forIn_toList]
    simp only [List.forIn_cons, List.forIn_nil]
    refine wpAny_bind (wpAny_bind (wpAny_holding ?_))
    show wpAny _ _ (Builtin.SmallTypes.nextOf (.ref i1) >>= _) _ _ _
    cases hx : xs[k1]? with
    | none =>
      refine wpAny_bind (RZ.nextOf_tuple_end (s := { s with heap := h₁ }) hh (h1.extBut hs₁.extBut D.i1z) (hl1.extBut hs₁.extBut D.l1z) hx fun h₂ e hs₂ he => ?_)
      exact hE h₂ e (fun c o c1 _ c2 _ x => hs₂ _ _ c2 (hs₁.extBut _ _ c1 x)) he
    | some x =>
      have hy : ys[k2]? = none := by rcases hend with h | h; rw [hx] at h; cases h; exact h
      refine wpAny_bind (RZ.nextOf_tuple_item (s := { s with heap := h₁ }) (h1.extBut hs₁.extBut D.i1z) (hl1.extBut hs₁.extBut D.l1z) hx fun h₂ h1₂ hs₂ => wpAny_pure ?_)
      refine wpAny_pure ?_
      refine wpAny_bind (wpAny_bind (wpAny_holding ?_))
      show wpAny _ _ (Builtin.SmallTypes.nextOf (.ref i2) >>= _) _ _ _
      refine wpAny_bind (RZ.nextOf_tuple_end (s := { s with heap := h₂ }) hh ((h2.extBut hs₁.extBut D.i2z).extBut hs₂.extBut D.i12.symm) ((hl2.extBut hs₁.extBut D.l2z).extBut hs₂.extBut D.l2i1) hy fun h₃ e hs₃ he => ?_)
      exact hE h₃ e (fun c o c1 _ c2 c3 x => hs₃ _ _ c3 (hs₂.extBut _ _ c2 (hs₁.extBut _ _ c1 x))) he
theorem next_zvT_item {z TI TO i1 i2 l1 l2 : Addr} {k1 k2 : Nat} {v : Value} {f : Bool} {xs ys : Array Value} {x y a b : Value} {Q : Option Value → Shared → Prop} (D : ZipApart z TI TO i1 i2 l1 l2) (hv : OutV v)
    (hz : ZV s.heap z TI TO v f) (hTI : IsPair s.heap TI (.ref i1) (.ref i2)) (hTO : IsPair s.heap TO a b)
    (h1 : s.heap.IsTupleIter i1 l1 k1) (h2 : s.heap.IsTupleIter i2 l2 k2) (hl1 : s.heap.IsTuple l1 xs) (hl2 : s.heap.IsTuple l2 ys) (hx : xs[k1]? = some x) (hy : ys[k2]? = some y)
    (hQ : ∀ h' v' f', OutV v' → ZV h' z TI TO v' f' → (∃ a b, IsPair h' TO a b) → h'.IsTupleIter i1 l1 (k1 + 1) → h'.IsTupleIter i2 l2 (k2 + 1) → IsPair h' s.heap.objs.size x y → h'.objs.size = s.heap.objs.size + 1 →
      (∀ c o, c ≠ z → c ≠ TO → c ≠ i1 → c ≠ i2 → s.heap.get? c = some o → h'.get? c = some o) → Q (some (.ref s.heap.objs.size)) { s with heap := h' }) :
    wpAny (model prog w) A (pyNext (.ref z)) Q E s := by
  have hT : s.TypeIs (.ref z) "zip" := ⟨_, hz, rfl⟩
  unfold pyNext
  exact wpAny_bind (wpAny_attempt (wpAny_callSpecial?_slot (name := Str.ofString "__next__") hT F.slot_zip_next
    (wpAny_call_entry F.slot_zip_next hT F.entry_zip_next
      (zvT_item D hv hz hTI hTO h1 h2 hl1 hl2 hx hy fun h' v' f' a0 a1 a2 a3 a4 a5 a6 a7 => wpAny_pure (hQ h' v' f' a0 a1 a2 a3 a4 a5 a6 a7)) (F.args_zip_next_1 _))))
theorem next_zvT_end {z TI TO i1 i2 l1 l2 : Addr} {k1 k2 : Nat} {v : Value} {f : Bool} {xs ys : Array Value} {a b : Value} {Q : Option Value → Shared → Prop} (hh : A.handled = none) (D : ZipApart z TI TO i1 i2 l1 l2) (hv : OutV v)
    (hz : ZV s.heap z TI TO v f) (hTI : IsPair s.heap TI (.ref i1) (.ref i2)) (hTO : IsPair s.heap TO a b)
    (h1 : s.heap.IsTupleIter i1 l1 k1) (h2 : s.heap.IsTupleIter i2 l2 k2) (hl1 : s.heap.IsTuple l1 xs) (hl2 : s.heap.IsTuple l2 ys) (hend : xs[k1]? = none ∨ ys[k2]? = none)
    (hQ : ∀ h', (∀ c o, c ≠ z → c ≠ TO → c ≠ i1 → c ≠ i2 → s.heap.get? c = some o → h'.get? c = some o) → Q none { s with heap := h' }) : wpAny (model prog w) A (pyNext (.ref z)) Q E s := by
  have hT : s.TypeIs (.ref z) "zip" := ⟨_, hz, rfl⟩
  unfold pyNext
  refine wpAny_bind (wpAny_attempt (wpAny_callSpecial?_slot (name := Str.ofString "__next__") hT F.slot_zip_next
    (wpAny_call_entry F.slot_zip_next hT F.entry_zip_next (zvT_end hh D hv hz hTI hTO h1 h2 hl1 hl2 hend fun h' e hk he => ?_) (F.args_zip_next_1 _))))
  obtain ⟨o, ho, hc⟩ := he
  refine wpAny_bind (wpAny_isInstance (T := "StopIteration") (b := true) ⟨o, ho, hc⟩ isSubtype_stop ?_)
  exact wpAny_pure (hQ _ hk)

theorem zvL_item {z TI TO i1 i2 l1 l2 : Addr} {k1 k2 : Nat} {v : Value} {f : Bool} {xs ys : Array Value} {x y a b : Value} {Q : Value → Shared → Prop} (D : ZipApart z TI TO i1 i2 l1 l2) (hv : OutV v)
    (hz : ZV s.heap z TI TO v f) (hTI : IsPair s.heap TI (.ref i1) (.ref i2)) (hTO : IsPair s.heap TO a b)
    (h1 : s.heap.IsListIter i1 l1 k1) (h2 : s.heap.IsListIter i2 l2 k2) (hl1 : s.heap.IsList l1 xs) (hl2 : s.heap.IsList l2 ys) (hx : xs[k1]? = some x) (hy : ys[k2]? = some y)
    (hQ : ∀ h' v' f', OutV v' → ZV h' z TI TO v' f' → (∃ a b, IsPair h' TO a b) → h'.IsListIter i1 l1 (k1 + 1) → h'.IsListIter i2 l2 (k2 + 1) → IsPair h' s.heap.objs.size x y → h'.objs.size = s.heap.objs.size + 1 →
      (∀ c o, c ≠ z → c ≠ TO → c ≠ i1 → c ≠ i2 → s.heap.get? c = some o → h'.get? c = some o) → Q (.ref s.heap.objs.size) { s with heap := h' }) :
    wpAny (model prog w) A (Builtin.«zip.__next__» ⟨[.ref z], []⟩) (fun fin s' => ∃ v, fin = .done (.ret v) ∧ Q v s') E s := by
  show wpAny _ _ (field (.ref z) 2 >>= _) _ _ _
  refine wpAny_bind (wpAny_field hz rfl (x := .bool false) rfl ?_)
  show wpAny _ _ (field (.ref z) 3 >>= _) _ _ _
  refine wpAny_bind (wpAny_field hz rfl (x := .ref TI) rfl ?_)
  refine wpAny_bind (wpAny_seqItems hTI rfl ?_)
  show wpAny _ _ (Builtin.SmallTypes.ownedTupleIsFree (.ref z) >>= _) _ _ _
  refine wpAny_bind (zv_free hz hv ?_ fun h₁ hz₁ hs₁ => ?_)
  · simp only [if_true]
    refine wpAny_bind (wpAny_rule ?_)
    refine wpAny_bind (wpAny_field hz rfl (x := .ref TO) rfl ?_)
    refine wpAny_bind (wpAny_setField_rec hz (by simp) fun h₁ hz₁ hs₁ => ?_)
    replace hz₁ : ZV h₁ z TI TO .ellipsis f := hz₁
    refine wpAny_bind ?_
    simp only [List.zipIdx_cons, List.zipIdx_nil, List.forIn_cons, List.forIn_nil]
    refine wpAny_bind (wpAny_bind (wpAny_onRaise ?_))
    show wpAny _ _ (Builtin.SmallTypes.nextOf (.ref i1) >>= _) _ _ _
    refine wpAny_bind (wpAny_nextOf_list_item (s := { s with heap := h₁ }) (h1.extBut hs₁.extBut D.i1z) (hl1.extBut hs₁.extBut D.l1z) hx fun h₂ h1₂ hs₂ => wpAny_pure ?_)
    have hTO₂ : IsPair h₂ TO a b := hs₂.extBut _ _ D.TOi1 (hs₁.extBut _ _ D.TOz hTO)
    refine wpAny_bind (wpAny_seqItems hTO₂ rfl ?_)
    refine wpAny_bind (wpAny_updateSeq_pair hTO₂ fun h₃ hTO₃ hs₃ => ?_)
    replace hTO₃ : IsPair h₃ TO x b := hTO₃
    refine wpAny_bind (wpAny_letGo (wpAny_pure ?_))
    refine wpAny_bind (wpAny_bind (wpAny_onRaise ?_))
    show wpAny _ _ (Builtin.SmallTypes.nextOf (.ref i2) >>= _) _ _ _
    refine wpAny_bind (wpAny_nextOf_list_item (s := { s with heap := h₃ }) (((h2.extBut hs₁.extBut D.i2z).extBut hs₂.extBut D.i12.symm).extBut hs₃.extBut D.TOi2.symm)
      (((hl2.extBut hs₁.extBut D.l2z).extBut hs₂.extBut D.l2i1).extBut hs₃.extBut D.l2TO) hy fun h₄ h2₄ hs₄ => wpAny_pure ?_)
    have hTO₄ : IsPair h₄ TO x b := hs₄.extBut _ _ D.TOi2 hTO₃
    refine wpAny_bind (wpAny_seqItems hTO₄ rfl ?_)
    refine wpAny_bind (wpAny_updateSeq_pair hTO₄ fun h₅ hTO₅ hs₅ => ?_)
    replace hTO₅ : IsPair h₅ TO x y := hTO₅
    refine wpAny_bind (wpAny_letGo (wpAny_pure (wpAny_pure ?_)))
    refine wpAny_bind (wpAny_seqItems hTO₅ rfl ?_)
    refine wpAny_bind (wpAny_newTuple ?_)
    have hsz : h₅.objs.size = s.heap.objs.size := by rw [hs₅.1, hs₄.1, hs₃.1, hs₂.1, hs₁.1]
    have hz₅ : ZV h₅ z TI TO .ellipsis f := hs₅.extBut _ _ D.TOz.symm (hs₄.extBut _ _ D.i2z.symm (hs₃.extBut _ _ D.TOz.symm (hs₂.extBut _ _ D.i1z.symm hz₁)))
    have hk₅ : ∀ c o, c ≠ z → c ≠ TO → c ≠ i1 → c ≠ i2 → s.heap.get? c = some o → h₅.get? c = some o := fun c o c1 c2 c3 c4 e =>
      hs₅.extBut _ _ c2 (hs₄.extBut _ _ c4 (hs₃.extBut _ _ c2 (hs₂.extBut _ _ c3 (hs₁.extBut _ _ c1 e))))
    have h1₅ : h₅.IsListIter i1 l1 (k1 + 1) := ((h1₂.extBut hs₃.extBut D.TOi1.symm).extBut hs₄.extBut D.i12).extBut hs₅.extBut D.TOi1.symm
    have h2₅ : h₅.IsListIter i2 l2 (k2 + 1) := h2₄.extBut hs₅.extBut D.TOi2.symm
    have hzlt : z < h₅.objs.size := Heap.lt_size hz₅
    show wpAny _ _ (Builtin.SmallTypes.ownedTupleHandOut (.ref z) (.ref h₅.objs.size) >>= _) _ _ _
    refine wpAny_bind ?_
    unfold Builtin.SmallTypes.ownedTupleHandOut
    have hz₆ : ZV (h₅.push { cls := .type "tuple", data := .seq #[x, y] }) z TI TO .ellipsis f := Heap.get?_push_of_some _ hz₅
    refine wpAny_bind (wpAny_setField_rec hz₆ (by simp) fun h₇ hz₇ hs₇ => ?_)
    replace hz₇ : ZV h₇ z TI TO (rawInt h₅.objs.size) f := hz₇
    refine wpAny_setField_rec hz₇ (by simp) fun h₈ hz₈ hs₈ => ?_
    replace hz₈ : ZV h₈ z TI TO (rawInt h₅.objs.size) false := hz₈
    have up : ∀ c o, c ≠ z → h₅.get? c = some o → h₈.get? c = some o := fun c o c1 e => hs₈.extBut _ _ c1 (hs₇.extBut _ _ c1 (Heap.get?_push_of_some _ e))
    have hT₈ : IsPair h₈ h₅.objs.size x y := hs₈.extBut _ _ (Nat.ne_of_gt hzlt) (hs₇.extBut _ _ (Nat.ne_of_gt hzlt) (Heap.get?_push_size _ rfl))
    have hz8 : h₈.objs.size = h₅.objs.size + 1 := by rw [hs₈.1, hs₇.1, Heap.size_push]
    rw [hsz] at hz₈ hT₈ hz8
    refine wpAny_pure ⟨_, rfl, ?_⟩
    show Q (.ref h₅.objs.size) _
    rw [hsz]
    exact hQ h₈ _ _ (.inr ⟨_, rfl⟩) hz₈ ⟨_, _, up _ _ D.TOz hTO₅⟩ (h1₅.at fun o e => up _ o D.i1z e) (h2₅.at fun o e => up _ o D.i2z e) hT₈ hz8 fun c o c1 c2 c3 c4 e => up c o c1 (hk₅ c o c1 c2 c3 c4 e)
  · replace hz₁ : ZV h₁ z TI TO v true := hz₁
    simp only [Bool.false_eq_true, if_false]
    refine wpAny_bind ?_
    rw [← Array.forIn_toList]
    simp only [List.forIn_cons, List.forIn_nil]
    refine wpAny_bind (wpAny_bind (wpAny_holding ?_))
    show wpAny _ _ (Builtin.SmallTypes.nextOf (.ref i1) >>= _) _ _ _
    refine wpAny_bind (wpAny_nextOf_list_item (s := { s with heap := h₁ }) (h1.extBut hs₁.extBut D.i1z) (hl1.extBut hs₁.extBut D.l1z) hx fun h₂ h1₂ hs₂ => wpAny_pure ?_)
    refine wpAny_pure ?_
    refine wpAny_bind (wpAny_bind (wpAny_holding ?_))
    show wpAny _ _ (Builtin.SmallTypes.nextOf (.ref i2) >>= _) _ _ _
    refine wpAny_bind (wpAny_nextOf_list_item (s := { s with heap := h₂ }) ((h2.extBut hs₁.extBut D.i2z).extBut hs₂.extBut D.i12.symm) ((hl2.extBut hs₁.extBut D.l2z).extBut hs₂.extBut D.l2i1) hy fun h₃ h2₃ hs₃ => wpAny_pure ?_)
    refine wpAny_pure (wpAny_pure ?_)
    show wpAny _ _ (newTuple [x, y] >>= _) _ _ _
    refine wpAny_bind (wpAny_newTuple ?_)
    have hsz : h₃.objs.size = s.heap.objs.size := by rw [hs₃.1, hs₂.1, hs₁.1]
    have hz₃ : ZV h₃ z TI TO v true := hs₃.extBut _ _ D.i2z.symm (hs₂.extBut _ _ D.i1z.symm hz₁)
    have hk : ∀ c o, c ≠ z → c ≠ i1 → c ≠ i2 → s.heap.get? c = some o → h₃.get? c = some o := fun c o c1 c2 c3 e => hs₃.extBut _ _ c3 (hs₂.extBut _ _ c2 (hs₁.extBut _ _ c1 e))
    have h1₃ : h₃.IsListIter i1 l1 (k1 + 1) := h1₂.extBut hs₃.extBut D.i12
    refine wpAny_pure ⟨_, rfl, ?_⟩
    show Q (.ref h₃.objs.size) _
    have hp : IsPair (h₃.push { cls := .type "tuple", data := .seq #[x, y] }) h₃.objs.size x y := Heap.get?_push_size _ rfl
    have hz4 : (h₃.push { cls := .type "tuple", data := .seq #[x, y] }).objs.size = h₃.objs.size + 1 := Heap.size_push ..
    rw [hsz] at hp hz4 ⊢
    exact hQ _ v true hv (Heap.get?_push_of_some _ hz₃) ⟨a, b, Heap.get?_push_of_some _ (hk _ _ D.TOz D.TOi1 D.TOi2 hTO)⟩ (h1₃.at fun o e => Heap.get?_push_of_some _ e) (h2₃.at fun o e => Heap.get?_push_of_some _ e) hp hz4 fun c o c1 _ c3 c4 e => Heap.get?_push_of_some _ (hk c o c1 c3 c4 e)
theorem zvL_end {z TI TO i1 i2 l1 l2 : Addr} {k1 k2 : Nat} {v : Value} {f : Bool} {xs ys : Array Value} {a b : Value} {Q : Fin → Shared → Prop} (hh : A.handled = none) (D : ZipApart z TI TO i1 i2 l1 l2) (hv : OutV v)
    (hz : ZV s.heap z TI TO v f) (hTI : IsPair s.heap TI (.ref i1) (.ref i2)) (hTO : IsPair s.heap TO a b)
    (h1 : s.heap.IsListIter i1 l1 k1) (h2 : s.heap.IsListIter i2 l2 k2) (hl1 : s.heap.IsList l1 xs) (hl2 : s.heap.IsList l2 ys) (hend : xs[k1]? = none ∨ ys[k2]? = none)
    (hE : ∀ h' e, (∀ c o, c ≠ z → c ≠ TO → c ≠ i1 → c ≠ i2 → s.heap.get? c = some o → h'.get? c = some o) → (∃ o, h'.get? e = some o ∧ o.cls = .type "StopIteration") → E (.ref e) { s with heap := h' }) :
    wpAny (model prog w) A (Builtin.«zip.__next__» ⟨[.ref z], []⟩) Q E s := by
  show wpAny _ _ (field (.ref z) 2 >>= _) _ _ _
  refine wpAny_bind (wpAny_field hz rfl (x := .bool false) rfl ?_)
  show wpAny _ _ (field (.ref z) 3 >>= _) _ _ _
  refine wpAny_bind (wpAny_field hz rfl (x := .ref TI) rfl ?_)
  refine wpAny_bind (wpAny_seqItems hTI rfl ?_)
  show wpAny _ _ (Builtin.SmallTypes.ownedTupleIsFree (.ref z) >>= _) _ _ _
  refine wpAny_bind (zv_free hz hv ?_ fun h₁ hz₁ hs₁ => ?_)
  · simp only [if_true]
    refine wpAny_bind (wpAny_rule ?_)
    refine wpAny_bind (wpAny_field hz rfl (x := .ref TO) rfl ?_)
    refine wpAny_bind (wpAny_setField_rec hz (by simp) fun h₁ hz₁ hs₁ => ?_)
    replace hz₁ : ZV h₁ z TI TO .ellipsis f := hz₁
    refine wpAny_bind ?_
    simp only [List.zipIdx_cons, List.zipIdx_nil, List.forIn_cons, List.forIn_nil]
    refine wpAny_bind (wpAny_bind (wpAny_onRaise ?_))
    show wpAny _ _ (Builtin.SmallTypes.nextOf (.ref i1) >>= _) _ _ _
    cases hx : xs[k1]? with
    | none =>
      refine wpAny_bind (wpAny_nextOf_list_end (s := { s with heap := h₁ }) hh (h1.extBut hs₁.extBut D.i1z) (hl1.extBut hs₁.extBut D.l1z) hx fun h₂ e hs₂ he => ?_)
      obtain ⟨oe, hoe, hce⟩ := he
      have hz₂ : ZV h₂ z TI TO .ellipsis f := hs₂ _ _ D.i1z.symm hz₁
      have hez : e ≠ z := fun x => by subst x; rw [hz₂] at hoe; cases hoe; simp at hce
      refine wpAny_setField_rec hz₂ (by simp) fun h₃ _ hs₃ => hE h₃ e (fun c o c1 _ c3 _ x => hs₃.extBut _ _ c1 (hs₂ _ _ c3 (hs₁.extBut _ _ c1 x))) ⟨oe, hs₃.extBut _ _ hez hoe, hce⟩
    | some x =>
      have hy : ys[k2]? = none := by rcases hend with h | h; rw [hx] at h; cases h; exact h
      refine wpAny_bind (wpAny_nextOf_list_item (s := { s with heap := h₁ }) (h1.extBut hs₁.extBut D.i1z) (hl1.extBut hs₁.extBut D.l1z) hx fun h₂ h1₂ hs₂ => wpAny_pure ?_)
      have hTO₂ : IsPair h₂ TO a b := hs₂.extBut _ _ D.TOi1 (hs₁.extBut _ _ D.TOz hTO)
      refine wpAny_bind (wpAny_seqItems hTO₂ rfl ?_)
      refine wpAny_bind (wpAny_updateSeq_pair hTO₂ fun h₃ hTO₃ hs₃ => ?_)
      refine wpAny_bind (wpAny_letGo (wpAny_pure ?_))
      refine wpAny_bind (wpAny_bind (wpAny_onRaise ?_))
      show wpAny _ _ (Builtin.SmallTypes.nextOf (.ref i2) >>= _) _ _ _
      refine wpAny_bind (wpAny_nextOf_list_end (s := { s with heap := h₃ }) hh (((h2.extBut hs₁.extBut D.i2z).extBut hs₂.extBut D.i12.symm).extBut hs₃.extBut D.TOi2.symm)
        (((hl2.extBut hs₁.extBut D.l2z).extBut hs₂.extBut D.l2i1).extBut hs₃.extBut D.l2TO) hy fun h₄ e hs₄ he => ?_)
      obtain ⟨oe, hoe, hce⟩ := he
      have hz₄ : ZV h₄ z TI TO .ellipsis f := hs₄ _ _ D.i2z.symm (hs₃.extBut _ _ D.TOz.symm (hs₂.extBut _ _ D.i1z.symm hz₁))
      have hez : e ≠ z := fun x => by subst x; rw [hz₄] at hoe; cases hoe; simp at hce
      refine wpAny_setField_rec hz₄ (by simp) fun h₅ _ hs₅ => hE h₅ e (fun c o c1 c2 c3 c4 x => hs₅.extBut _ _ c1 (hs₄ _ _ c4 (hs₃.extBut _ _ c2 (hs₂.extBut _ _ c3 (hs₁.extBut _ _ c1 x))))) ⟨oe, hs₅.extBut _ _ hez hoe, hce⟩
  · simp only [Bool.false_eq_true, if_false]
    refine wpAny_bind ?_
    rw [← Array.forIn_toList]
    simp only [List.forIn_cons, List.forIn_nil]
    refine wpAny_bind (wpAny_bind (wpAny_holding ?_))
    show wpAny _ _ (Builtin.SmallTypes.nextOf (.ref i1) >>= _) _ _ _
    cases hx : xs[k1]? with
    | none =>
      refine wpAny_bind (wpAny_nextOf_list_end (s := { s with heap := h₁ }) hh (h1.extBut hs₁.extBut D.i1z) (hl1.extBut hs₁.extBut D.l1z) hx fun h₂ e hs₂ he => ?_)
      exact hE h₂ e (fun c o c1 _ c2 _ x => hs₂ _ _ c2 (hs₁.extBut _ _ c1 x)) he
    | some x =>
      have hy : ys[k2]? = none := by rcases hend with h | h; rw [hx] at h; cases h; exact h
      refine wpAny_bind (wpAny_nextOf_list_item (s := { s with heap := h₁ }) (h1.extBut hs₁.extBut D.i1z) (hl1.extBut hs₁.extBut D.l1z) hx fun h₂ h1₂ hs₂ => wpAny_pure ?_)
      refine wpAny_pure ?_
      refine wpAny_bind (wpAny_bind (wpAny_holding ?_))
      show wpAny _ _ (Builtin.SmallTypes.nextOf (.ref i2) >>= _) _ _ _
      refine wpAny_bind (wpAny_nextOf_list_end (s := { s with heap := h₂ }) hh ((h2.extBut hs₁.extBut D.i2z).extBut hs₂.extBut D.i12.symm) ((hl2.extBut hs₁.extBut D.l2z).extBut hs₂.extBut D.l2i1) hy fun h₃ e hs₃ he => ?_)
      exact hE h₃ e (fun c o c1 _ c2 c3 x => hs₃ _ _ c3 (hs₂.extBut _ _ c2 (hs₁.extBut _ _ c1 x))) he
theorem next_zvL_item {z TI TO i1 i2 l1 l2 : Addr} {k1 k2 : Nat} {v : Value} {f : Bool} {xs ys : Array Value} {x y a b : Value} {Q : Option Value → Shared → Prop} (D : ZipApart z TI TO i1 i2 l1 l2) (hv : OutV v)
    (hz : ZV s.heap z TI TO v f) (hTI : IsPair s.heap TI (.ref i1) (.ref i2)) (hTO : IsPair s.heap TO a b)
    (h1 : s.heap.IsListIter i1 l1 k1) (h2 : s.heap.IsListIter i2 l2 k2) (hl1 : s.heap.IsList l1 xs) (hl2 : s.heap.IsList l2 ys) (hx : xs[k1]? = some x) (hy : ys[k2]? = some y)
    (hQ : ∀ h' v' f', OutV v' → ZV h' z TI TO v' f' → (∃ a b, IsPair h' TO a b) → h'.IsListIter i1 l1 (k1 + 1) → h'.IsListIter i2 l2 (k2 + 1) → IsPair h' s.heap.objs.size x y → h'.objs.size = s.heap.objs.size + 1 →
      (∀ c o, c ≠ z → c ≠ TO → c ≠ i1 → c ≠ i2 → s.heap.get? c = some o → h'.get? c = some o) → Q (some (.ref s.heap.objs.size)) { s with heap := h' }) :
    wpAny (model prog w) A (pyNext (.ref z)) Q E s := by
  have hT : s.TypeIs (.ref z) "zip" := ⟨_, hz, rfl⟩
  unfold pyNext
  exact wpAny_bind (wpAny_attempt (wpAny_callSpecial?_slot (name := Str.ofString "__next__") hT F.slot_zip_next
    (wpAny_call_entry F.slot_zip_next hT F.entry_zip_next
      (zvL_item D hv hz hTI hTO h1 h2 hl1 hl2 hx hy fun h' v' f' a0 a1 a2 a3 a4 a5 a6 a7 => wpAny_pure (hQ h' v' f' a0 a1 a2 a3 a4 a5 a6 a7)) (F.args_zip_next_1 _))))
theorem next_zvL_end {z TI TO i1 i2 l1 l2 : Addr} {k1 k2 : Nat} {v : Value} {f : Bool} {xs ys : Array Value} {a b : Value} {Q : Option Value → Shared → Prop} (hh : A.handled = none) (D : ZipApart z TI TO i1 i2 l1 l2) (hv : OutV v)
    (hz : ZV s.heap z TI TO v f) (hTI : IsPair s.heap TI (.ref i1) (.ref i2)) (hTO : IsPair s.heap TO a b)
    (h1 : s.heap.IsListIter i1 l1 k1) (h2 : s.heap.IsListIter i2 l2 k2) (hl1 : s.heap.IsList l1 xs) (hl2 : s.heap.IsList l2 ys) (hend : xs[k1]? = none ∨ ys[k2]? = none)
    (hQ : ∀ h', (∀ c o, c ≠ z → c ≠ TO → c ≠ i1 → c ≠ i2 → s.heap.get? c = some o → h'.get? c = some o) → Q none { s with heap := h' }) : wpAny (model prog w) A (pyNext (.ref z)) Q E s := by
  have hT : s.TypeIs (.ref z) "zip" := ⟨_, hz, rfl⟩
  unfold pyNext
  refine wpAny_bind (wpAny_attempt (wpAny_callSpecial?_slot (name := Str.ofString "__next__") hT F.slot_zip_next
    (wpAny_call_entry F.slot_zip_next hT F.entry_zip_next (zvL_end hh D hv hz hTI hTO h1 h2 hl1 hl2 hend fun h' e hk he => ?_) (F.args_zip_next_1 _))))
  obtain ⟨o, ho, hc⟩ := he
  refine wpAny_bind (wpAny_isInstance (T := "StopIteration") (b := true) ⟨o, ho, hc⟩ isSubtype_stop ?_)
  exact wpAny_pure (hQ _ hk)
theorem iter_zvT {z TI TO : Addr} {v : Value} {f : Bool} {Q : Value → Shared → Prop} (hz : ZV s.heap z TI TO v f) (h : Q (.ref z) s) : wpAny (model prog w) A (pyIter (.ref z)) Q E s := by
  have hT : s.TypeIs (.ref z) "zip" := ⟨_, hz, rfl⟩
  refine wpAny_pyIter_slot hT F.slot_zip_iter (wpAny_call_entry F.slot_zip_iter hT F.entry_zip_iter ?_ (F.args_zip_iter_1 _))
  show wpAny _ _ (ret (.ref z)) _ _ s
  exact wpAny_pure ⟨_, rfl, "zip", _, hT, F.slot_zip_next.lookup, h⟩
end

theorem turn_zvT {P : Program} {w : World} {K : PySem.W.Frag} {nm : Str} {np : Pos} {a b z TI TO i1 i2 : Addr} (D : ZipApart z TI TO i1 i2 a b) :
    Turn P w K (.Name nm np) (RZ.ItzT K a b) [z, TI, TO, i1, i2] z (fun i h => (∃ v f, OutV v ∧ ZV h z TI TO v f) ∧ IsPair h TI (.ref i1) (.ref i2) ∧ (∃ x y, IsPair h TO x y) ∧ h.IsTupleIter i1 a i ∧ h.IsTupleIter i2 b i) where
  mem := by simp
  obj := fun i h st c hc => by
    obtain ⟨⟨v, f, hv, hz⟩, hTI, ⟨x, y, hTO⟩, ⟨o1, e1, _, d1⟩, ⟨o2, e2, _, d2⟩⟩ := st
    have e' : c = z ∨ c = TI ∨ c = TO ∨ c = i1 ∨ c = i2 := by simpa using hc
    rcases e' with q | q | q | q | q
    · rw [q]; exact ⟨_, hz, fun v q => nomatch q⟩
    · rw [q]; exact ⟨_, hTI, fun v q => nomatch q⟩
    · rw [q]; exact ⟨_, hTO, fun v q => nomatch q⟩
    · rw [q]; exact ⟨o1, e1, fun v q => by rw [d1] at q; cases q⟩
    · rw [q]; exact ⟨o2, e2, fun v q => by rw [d2] at q; cases q⟩
  keep := fun i h h' st k => by
    obtain ⟨⟨v, f, hv, hz⟩, hTI, ⟨x, y, hTO⟩, h1, h2⟩ := st
    exact ⟨⟨v, f, hv, k z (by simp) _ hz⟩, k TI (by simp) _ hTI, ⟨x, y, k TO (by simp) _ hTO⟩, h1.at fun o q => k i1 (by simp) o q, h2.at fun o q => k i2 (by simp) o q⟩
  item := by
    intro X hP hw hK hc i pins s σ H E I hf st hg
    subst hP hw hK
    obtain ⟨⟨v, f, hv, hz⟩, hTI, ⟨x0, y0, hTO⟩, h1, h2⟩ := st
    obtain ⟨xs, ys, x, y, hqx, hqy, hx, hy⟩ := hg
    obtain ⟨its, rv, p, _⟩ := I.tuple hqx
    obtain ⟨its2, rv2, p2, _⟩ := I.tuple hqy
    obtain ⟨u, hu, ru⟩ := rv.get hx
    obtain ⟨u2, hu2, ru2⟩ := rv2.get hy
    have hzl : z < s.heap.objs.size := Heap.lt_size hz
    refine next_zvT_item D hv hz hTI hTO h1 h2 p p2 (x := u) (y := u2) (by simpa using hu) (by simpa using hu2) fun h' v' f' hv' z' TO' h1' h2' hT hsz hk => ?_
    refine ⟨_, rfl, wpAny_pure ?_⟩
    have new : ObjOk X.prog X.w (upd H s.heap.objs.size (.tup [x, y])) h' s.heap.objs.size (.tup [x, y]) :=
      ⟨by show 2 ≤ sizeLine; decide, [u, u2], .cons ru (.cons ru2 .nil), ⟨_, hT, rfl, _, rfl⟩⟩
    have I1 : Inv X pins σ (upd H s.heap.objs.size (.tup [x, y])) { s with heap := h' } :=
      I.turnedNew (t' := s.toks) (ch := [z, TI, TO, i1, i2]) (fun c o hb q => hk c o (fun q' => hb (by simp [q'])) (fun q' => hb (by simp [q'])) (fun q' => hb (by simp [q'])) (fun q' => hb (by simp [q'])) q) hf (Nat.le_refl _) new
    refine ⟨.ref s.heap.objs.size, _, I1, rfl, ⟨_, x, y, rfl, I.hok.fresh (Nat.le_refl _), rfl, fun l hl => by rw [I.tuple_inj hl hqx]; exact hx, fun l hl => by rw [I.tuple_inj hl hqy]; exact hy⟩, ⟨⟨v', f', hv', z'⟩, ?_, TO', h1', h2'⟩, fun c hcm => ?_⟩
    · exact hk _ _ D.TIz D.TITO D.TIi1 D.TIi2 hTI
    · have hlt : c < s.heap.objs.size := by
        have e' : c = z ∨ c = TI ∨ c = TO ∨ c = i1 ∨ c = i2 := by simpa using hcm
        rcases e' with q | q | q | q | q
        · rw [q]; exact hzl
        · rw [q]; exact Heap.lt_size hTI
        · rw [q]; exact Heap.lt_size hTO
        · rw [q]; obtain ⟨_, e1, _⟩ := h1; exact Heap.lt_size e1
        · rw [q]; obtain ⟨_, e2, _⟩ := h2; exact Heap.lt_size e2
      rw [upd_ne (Nat.ne_of_lt hlt)]
      exact (hf c hcm).1
  done := by
    intro X hP hw hK hc i pins s σ H E I hf st hg
    subst hP hw hK
    obtain ⟨⟨v, f, hv, hz⟩, hTI, ⟨x0, y0, hTO⟩, h1, h2⟩ := st
    obtain ⟨xs, ys, hqx, hqy, hend⟩ := hg
    obtain ⟨its, rv, p, _⟩ := I.tuple hqx
    obtain ⟨its2, rv2, p2, _⟩ := I.tuple hqy
    have l1 := rv.length
    have l2 := rv2.length
    have he : its.toArray[i]? = none ∨ its2.toArray[i]? = none := by
      rcases hend with q | q
      · exact .inl (by simp; omega)
      · exact .inr (by simp; omega)
    exact next_zvT_end (I.ok.hd hc) D hv hz hTI hTO h1 h2 p p2 he fun h' hk => ⟨rfl, I.turnedL (t' := s.toks) (ch := [z, TI, TO, i1, i2]) (fun c o hb q =>
      hk c o (fun q' => hb (by simp [q'])) (fun q' => hb (by simp [q'])) (fun q' => hb (by simp [q'])) (fun q' => hb (by simp [q'])) q) hf⟩
  self := fun A i s Q E st h => by
    obtain ⟨⟨v, f, hv, hz⟩, _⟩ := st
    exact iter_zvT hz h

theorem turn_zvL {P : Program} {w : World} {K : PySem.W.Frag} {nm : Str} {np : Pos} {a b z TI TO i1 i2 : Addr} (D : ZipApart z TI TO i1 i2 a b) :
    Turn P w K (.Name nm np) (Itz K a b) [z, TI, TO, i1, i2] z (fun i h => (∃ v f, OutV v ∧ ZV h z TI TO v f) ∧ IsPair h TI (.ref i1) (.ref i2) ∧ (∃ x y, IsPair h TO x y) ∧ h.IsListIter i1 a i ∧ h.IsListIter i2 b i) where
  mem := by simp
  obj := fun i h st c hc => by
    obtain ⟨⟨v, f, hv, hz⟩, hTI, ⟨x, y, hTO⟩, ⟨o1, e1, _, d1⟩, ⟨o2, e2, _, d2⟩⟩ := st
    have e' : c = z ∨ c = TI ∨ c = TO ∨ c = i1 ∨ c = i2 := by simpa using hc
    rcases e' with q | q | q | q | q
    · rw [q]; exact ⟨_, hz, fun v q => nomatch q⟩
    · rw [q]; exact ⟨_, hTI, fun v q => nomatch q⟩
    · rw [q]; exact ⟨_, hTO, fun v q => nomatch q⟩
    · rw [q]; exact ⟨o1, e1, fun v q => by rw [d1] at q; cases q⟩
    · rw [q]; exact ⟨o2, e2, fun v q => by rw [d2] at q; cases q⟩
  keep := fun i h h' st k => by
    obtain ⟨⟨v, f, hv, hz⟩, hTI, ⟨x, y, hTO⟩, h1, h2⟩ := st
    exact ⟨⟨v, f, hv, k z (by simp) _ hz⟩, k TI (by simp) _ hTI, ⟨x, y, k TO (by simp) _ hTO⟩, h1.at fun o q => k i1 (by simp) o q, h2.at fun o q => k i2 (by simp) o q⟩
  item := by
    intro X hP hw hK hc i pins s σ H E I hf st hg
    subst hP hw hK
    obtain ⟨⟨v, f, hv, hz⟩, hTI, ⟨x0, y0, hTO⟩, h1, h2⟩ := st
    obtain ⟨xs, ys, x, y, hqx, hqy, hx, hy⟩ := hg
    obtain ⟨its, rv, p, _⟩ := I.list hqx
    obtain ⟨its2, rv2, p2, _⟩ := I.list hqy
    obtain ⟨u, hu, ru⟩ := rv.get hx
    obtain ⟨u2, hu2, ru2⟩ := rv2.get hy
    have hzl : z < s.heap.objs.size := Heap.lt_size hz
    refine next_zvL_item D hv hz hTI hTO h1 h2 p.isList p2.isList (x := u) (y := u2) (by simpa using hu) (by simpa using hu2) fun h' v' f' hv' z' TO' h1' h2' hT hsz hk => ?_
    refine ⟨_, rfl, wpAny_pure ?_⟩
    have new : ObjOk X.prog X.w (upd H s.heap.objs.size (.tup [x, y])) h' s.heap.objs.size (.tup [x, y]) :=
      ⟨by show 2 ≤ sizeLine; decide, [u, u2], .cons ru (.cons ru2 .nil), ⟨_, hT, rfl, _, rfl⟩⟩
    have I1 : Inv X pins σ (upd H s.heap.objs.size (.tup [x, y])) { s with heap := h' } :=
      I.turnedNew (t' := s.toks) (ch := [z, TI, TO, i1, i2]) (fun c o hb q => hk c o (fun q' => hb (by simp [q'])) (fun q' => hb (by simp [q'])) (fun q' => hb (by simp [q'])) (fun q' => hb (by simp [q'])) q) hf (Nat.le_refl _) new
    refine ⟨.ref s.heap.objs.size, _, I1, rfl, ⟨_, x, y, rfl, I.hok.fresh (Nat.le_refl _), rfl, fun l hl => by rw [I.list_inj hl hqx]; exact hx, fun l hl => by rw [I.list_inj hl hqy]; exact hy⟩, ⟨⟨v', f', hv', z'⟩, ?_, TO', h1', h2'⟩, fun c hcm => ?_⟩
    · exact hk _ _ D.TIz D.TITO D.TIi1 D.TIi2 hTI
    · have hlt : c < s.heap.objs.size := by
        have e' : c = z ∨ c = TI ∨ c = TO ∨ c = i1 ∨ c = i2 := by simpa using hcm
        rcases e' with q | q | q | q | q
        · rw [q]; exact hzl
        · rw [q]; exact Heap.lt_size hTI
        · rw [q]; exact Heap.lt_size hTO
        · rw [q]; obtain ⟨_, e1, _⟩ := h1; exact Heap.lt_size e1
        · rw [q]; obtain ⟨_, e2, _⟩ := h2; exact Heap.lt_size e2
      rw [upd_ne (Nat.ne_of_lt hlt)]
      exact (hf c hcm).1
  done := by
    intro X hP hw hK hc i pins s σ H E I hf st hg
    subst hP hw hK
    obtain ⟨⟨v, f, hv, hz⟩, hTI, ⟨x0, y0, hTO⟩, h1, h2⟩ := st
    obtain ⟨xs, ys, hqx, hqy, hend⟩ := hg
    obtain ⟨its, rv, p, _⟩ := I.list hqx
    obtain ⟨its2, rv2, p2, _⟩ := I.list hqy
    have l1 := rv.length
    have l2 := rv2.length
    have he : its.toArray[i]? = none ∨ its2.toArray[i]? = none := by
      rcases hend with q | q
      · exact .inl (by simp; omega)
      · exact .inr (by simp; omega)
    exact next_zvL_end (I.ok.hd hc) D hv hz hTI hTO h1 h2 p.isList p2.isList he fun h' hk => ⟨rfl, I.turnedL (t' := s.toks) (ch := [z, TI, TO, i1, i2]) (fun c o hb q =>
      hk c o (fun q' => hb (by simp [q'])) (fun q' => hb (by simp [q'])) (fun q' => hb (by simp [q'])) (fun q' => hb (by simp [q'])) q) hf⟩
  self := fun A i s Q E st h => by
    obtain ⟨⟨v, f, hv, hz⟩, _⟩ := st
    exact iter_zvT hz h

theorem pi_zipN {X : Cx} {e e2 : Expr} {ta : TA} {p pos np : Pos} {nm : Str} (hg : Gl X "zip") (hm : X.mg "zip" = none) (ha : PA X [e, e2] ta)
    (hs : starEach [e, e2] X.env = (false, eval e X.env) :: starEach [e2] X.env := by rfl) (hpl : (backTo pos (starEach [e2] X.env)).any (·.1) = false := by rfl) :
    PI X (.Name nm np) (.Call (.Name "zip" p) [e, e2] [] pos) (RZ.iZipA X.K ta) := by
  refine ⟨fun pins s σ H R I h => ?_⟩
  refine Call_ (ld_blt I hg hm PyProof.Rows.boot_zip (PyProof.Rows.callWith_type1 (thn (ha.run pos pins s σ H _ I h) fun us s1 ⟨vs, H1, I1, r1, q1⟩ => ?_) hs hpl))
  obtain ⟨a, b, xs, ys, ex, q1⟩ := q1
  subst ex
  cases r1 with
  | cons r rr =>
    cases rr with
    | cons r' rr =>
      cases rr
      cases r
      cases r'
      have fresh5 : ∀ c, c ∈ [s1.heap.objs.size + 4, s1.heap.objs.size + 2, s1.heap.objs.size + 3, s1.heap.objs.size, s1.heap.objs.size + 1] → FpOk X pins H1 c := fun c hcm => by
        have hle : s1.heap.objs.size ≤ c := by
          simp only [List.mem_cons, List.not_mem_nil, or_false] at hcm
          rcases hcm with z | z | z | z | z <;> omega
        exact I1.fpOk hle (I1.hok.fresh hle)
      rcases q1 with ⟨hqx, hqy, q⟩ | ⟨hqx, hqy, q⟩
      · obtain ⟨its, rv, p1, _⟩ := I1.list hqx
        obtain ⟨its2, rv2, p2, _⟩ := I1.list hqy
        refine call_zip_2 p1.isList p2.isList fun h' hz hTI hTO h1 h2 hsz hk => wpAny_pyIter_zip hz ?_
        have I2 : Inv X pins σ H1 { s1 with heap := h' } := I1.kept (t' := s1.toks) hk
        exact ⟨s1.heap.objs.size + 4, [s1.heap.objs.size + 4, s1.heap.objs.size + 2, s1.heap.objs.size + 3, s1.heap.objs.size, s1.heap.objs.size + 1], _, _, H1, rfl, I2, turn_zvL (PySem.W.ktu_apart s1.heap.objs.size a b p1.lt p2.lt), ⟨⟨.none, false, .inl rfl, hz⟩, hTI, ⟨_, _, hTO⟩, h1, h2⟩, fresh5, q⟩
      · obtain ⟨its, rv, p1, _⟩ := I1.tuple hqx
        obtain ⟨its2, rv2, p2, _⟩ := I1.tuple hqy
        obtain ⟨o1, ho1, _⟩ := id p1
        obtain ⟨o2, ho2, _⟩ := id p2
        refine RZ.call_zipT (show s1.heap.IsTuple a its.toArray from p1) (show s1.heap.IsTuple b its2.toArray from p2) fun h' hz hTI hTO h1 h2 hsz hk => wpAny_pyIter_zip hz ?_
        have I2 : Inv X pins σ H1 { s1 with heap := h' } := I1.kept (t' := s1.toks) hk
        exact ⟨s1.heap.objs.size + 4, [s1.heap.objs.size + 4, s1.heap.objs.size + 2, s1.heap.objs.size + 3, s1.heap.objs.size, s1.heap.objs.size + 1], _, _, H1, rfl, I2, turn_zvT (PySem.W.ktu_apart s1.heap.objs.size a b (Heap.lt_size ho1) (Heap.lt_size ho2)), ⟨⟨.none, false, .inl rfl, hz⟩, hTI, ⟨_, _, hTO⟩, h1, h2⟩, fresh5, q⟩
section
variable {X : Cx} {H0 : Hp} {W : XK} {κ : Kds} {e a b tg : Expr} {f fa fb : Env → R D} {pos p tpos : Pos}
theorem di_zipN {nm : Str} {np : Pos} (hg : Gl X "zip") (hm : X.mg "zip" = none) (ha : DE X H0 W κ rI a fa) (hb : DE X H0 W κ rI b fb) (hs : starEach [a, b] X.env = (false, eval a X.env) :: starEach [b] X.env := by rfl) (hs2 : starEach [b] X.env = (false, eval b X.env) :: starEach [] X.env := by rfl) (hpl : (backTo pos (starEach [b] X.env)).any (·.1) = false := by rfl) :
    DI X H0 W κ (.Name nm np) (.Call (.Name "zip" p) [a, b] [] pos) (iZip2 fa fb) :=
  ⟨(pi_zipN hg hm (pa_cons ha.pe (pa_cons hb.pe pa_nil hs2) hs) hs hpl).cons fun σ H Q ⟨τ, r, q⟩ => ⟨τ, r, PostA.imp (PostA.bind q) fun d pd v H1 s1 hv => ⟨τ, r.to s1, PostA.imp (PostA.bind (PostA.to pd s1)) fun d2 pd2 v2 H2 s2 hv2 => by
    have hv' : Im X.K H2 v d := hv.mono (Same.pers s2)
    cases d <;> cases d2 <;> try exact pd2.elim
    · cases hv' with
      | lst h1 z1 i1 =>
        cases hv2 with
        | lst h2 z2 i2 => exact ⟨_, _, _, _, rfl, .inl ⟨h1.sq, h2.sq, pd2 _ H2 (s1.trans s2) (itOk_zipL h1 i1 h2 i2 z1)⟩⟩
    · cases hv' with
      | tup h1 z1 i1 =>
        cases hv2 with
        | tup h2 z2 i2 => exact ⟨_, _, _, _, rfl, .inr ⟨.of h1, .of h2, pd2 _ H2 (s1.trans s2) (itOk_zipT (.of h1) i1 (.of h2) i2 z1)⟩⟩
        | ftup h2 z2 i2 => exact ⟨_, _, _, _, rfl, .inr ⟨.of h1, .inl (.inr ⟨_, h2⟩), pd2 _ H2 (s1.trans s2) (itOk_zipT (.of h1) i1 (.inl (.inr ⟨_, h2⟩)) i2 z1)⟩⟩
      | ftup h1 z1 i1 =>
        cases hv2 with
        | tup h2 z2 i2 => exact ⟨_, _, _, _, rfl, .inr ⟨.inl (.inr ⟨_, h1⟩), .of h2, pd2 _ H2 (s1.trans s2) (itOk_zipT (.inl (.inr ⟨_, h1⟩)) i1 (.of h2) i2 z1)⟩⟩
        | ftup h2 z2 i2 => exact ⟨_, _, _, _, rfl, .inr ⟨.inl (.inr ⟨_, h1⟩), .inl (.inr ⟨_, h2⟩), pd2 _ H2 (s1.trans s2) (itOk_zipT (.inl (.inr ⟨_, h1⟩)) i1 (.inl (.inr ⟨_, h2⟩)) i2 z1)⟩⟩⟩⟩⟩
end
end PL
set_option Elab.async false
set_option linter.all false
set_option maxRecDepth 100000
set_option maxHeartbeats 1000000
/-! PL22: list comprehensions with two fors. -/
namespace PL
open PySem PySem.Spec PyProof.Rows L2
noncomputable def lc2Go (b : D → Env → R Env) (c : Env → R Bool) (it1 : Env → R (List D)) (vs1 : List Nat) (b1 : D → Env → R Env) (c1 : Env → R Bool) (e : Env → R D) (τ0 : Env) : List D → R (List D)
  | [] => .ok []
  | d :: ds => (b d τ0).bind fun τ1 => (c τ1).bind fun k => if k = true then (it1 τ1).bind fun ds1 => (lcGo b1 c1 e (wipeE τ1 vs1) ds1).bind fun ys => (lc2Go b c it1 vs1 b1 c1 e τ0 ds).bind fun zs => .ok (ys ++ zs) else lc2Go b c it1 vs1 b1 c1 e τ0 ds
noncomputable def fLc2 (vs : List Nat) (it : Env → R (List D)) (b : D → Env → R Env) (c : Env → R Bool) (it1 : Env → R (List D)) (vs1 : List Nat) (b1 : D → Env → R Env) (c1 : Env → R Bool) (e : Env → R D) : Env → R D := fun τ => (it τ).bind fun ds => (lc2Go b c it1 vs1 b1 c1 e (wipeE τ vs) ds).calm.bind fun ys => if ys.length ≤ sizeLine then .ok (.list ys) else .bad
/-- a target's store touches its own slots alone -/
def PatOk (b : D → Env → R Env) (ws : List Nat) : Prop := ∀ d τ τ1, b d τ = .ok τ1 → ∀ j, j ∉ ws → τ1[j]? = τ[j]?
def PatsOk (b : List D → Env → R Env) (ws : List Nat) : Prop := ∀ d τ τ1, b d τ = .ok τ1 → ∀ j, j ∉ ws → τ1[j]? = τ[j]?
theorem po_name (i : Nat) : PatOk (bName i) [i] := fun d τ τ1 h j hj => by
  cases h
  exact List.getElem?_set_ne (fun z => hj (by simp [z]))
theorem pos_nil : PatsOk bNil [] := fun d τ τ1 h j hj => by
  cases d with
  | nil => cases h; rfl
  | cons _ _ => cases h
theorem pos_cons {b : D → Env → R Env} {bs : List D → Env → R Env} {ws vs : List Nat} (h1 : PatOk b ws) (h2 : PatsOk bs vs) : PatsOk (bCons b bs) (ws ++ vs) := fun d τ τ1 h j hj => by
  cases d with
  | nil => cases h
  | cons x r =>
    obtain ⟨τ', e1, e2⟩ := bind_ok' (show (b x τ).bind (fun τ' => bs r τ') = .ok τ1 from h)
    rw [h2 _ _ _ e2 j (fun z => hj (List.mem_append.mpr (.inr z))), h1 _ _ _ e1 j (fun z => hj (List.mem_append.mpr (.inl z)))]
theorem po_tup {bs : List D → Env → R Env} {ws : List Nat} (h : PatsOk bs ws) : PatOk (bTup bs) ws := fun d τ τ1 e j hj => by
  cases d with
  | tuple ds => exact h ds τ τ1 e j hj
  | _ => cases e
section
variable {X : Cx} {H0 : Hp} {W : XK} {κ κ1 : Kds} {tg iter tg1 iter1 elt c : Expr} {ifs ifs1 : List Expr} {vs ws vs1 ws1 : List Nat} {b b1 : D → Env → R Env} {fi fi1 : Env → R (List D)} {fc fc1 : Env → R Bool} {fe : Env → R D} {pos : Pos} {scope : Scope} {own : List (Str × Nat)}
theorem wipeE_at {τ : Env} {d : D} {j : Nat} : ∀ {vs : List Nat}, (wipeE τ vs)[j]? = some (some d) → τ[j]? = some (some d) ∧ j ∉ vs
  | [], h => ⟨h, List.not_mem_nil⟩
  | v :: vs, h => by
    rcases env_set (show ((wipeE τ vs).set v none)[j]? = some (some d) from h) with ⟨_, z, _⟩ | ⟨hne, z⟩
    · cases z
    · obtain ⟨h1, h2⟩ := wipeE_at z
      exact ⟨h1, fun m => (List.mem_cons.mp m).elim hne h2⟩
theorem wipeK_at {κ : Kds} {j : Nat} : ∀ {vs : List Nat}, j ∉ vs → kd (wipeK κ vs) j = kd κ j
  | [], _ => rfl
  | v :: vs, h => by
    have hne : j ≠ v := fun z => h (by simp [z])
    refine Eq.trans ?_ (wipeK_at (κ := κ) (vs := vs) fun z => h (List.mem_cons_of_mem _ z))
    show kd ((wipeK κ vs).set v .imm) j = _
    unfold kd; simp [List.getD_eq_getElem?_getD, List.getElem?_set_ne (Ne.symm hne)]
theorem wipeK_in {κ : Kds} {j : Nat} : ∀ {vs : List Nat}, j ∈ vs → kd (wipeK κ vs) j = .imm
  | [], h => absurd h List.not_mem_nil
  | v :: vs, h => by
    show kd ((wipeK κ vs).set v .imm) j = _
    by_cases hv : v = j
    · subst hv
      unfold kd
      by_cases hl : v < (wipeK κ vs).length
      · simp [List.getD_eq_getElem?_getD, List.getElem?_set_self hl]
      · simp [List.getD_eq_getElem?_getD, hl]
    · have hm : j ∈ vs := (List.mem_cons.mp h).resolve_left fun z => hv z.symm
      refine Eq.trans ?_ (wipeK_in (κ := κ) hm)
      unfold kd; simp [List.getD_eq_getElem?_getD, List.getElem?_set_ne hv]
/-- the reading of a comprehension with two fors -/
theorem tLc2_of {σ : L2.St} {H : Hp} {Q : VK} (hsub : ∀ j ∈ ws, j ∈ vs) (hsub1 : ∀ j ∈ ws1, j ∈ vs1) (pb : PatOk b ws) (h : tD X.K X.mg H0 W κ rN (fLc2 vs fi b fc fi1 vs1 b1 fc1 fe) σ H Q) :
    tLc2 (tI X.K X.mg H0 W κ fi) (gD X.K H0 (wipeK κ vs) (wipeK κ vs) ws b) (tT X.K X.mg H0 E0 (wipeK κ vs) fc) (tI X.K X.mg H0 E0 (wipeK κ vs) fi1) (gD X.K H0 (wipeK (wipeK κ vs) vs1) κ1 ws1 b1) (tT X.K X.mg H0 E0 κ1 fc1) (tD X.K X.mg H0 E0 κ1 rI fe) vs vs1 σ H Q := by
  obtain ⟨τ, r, q⟩ := h
  refine ⟨τ, r, PostA.imp (PostA.bind q) fun ds qd J H1 s1 ok D nD => ?_⟩
  obtain ⟨res, eres, qr⟩ := lc_ok (PostA.bind qd)
  by_cases small : res.length ≤ sizeLine
  case neg => rw [if_neg small] at qr; exact qr.elim
  rw [if_pos small] at qr
  have n0 : H0 D = none := (r.to s1).same.free nD
  have sD : ∀ {H o}, Same H1 H → Same H1 (upd H D o) := fun s => same_put s nD
  have rr : Rep X.K H0 H1 (wipeK κ vs) (wipe σ vs) (wipeE τ vs) := (r.to s1).wipe vs
  refine ⟨fun i m H => i + m = ds.length ∧ ∃ acc ys zs, H D = some (.lst acc) ∧ ImAll X.K H acc ys ∧ Same H1 H ∧ lc2Go b fc fi1 vs1 b1 fc1 fe (wipeE τ vs) (ds.drop i) = .ok zs ∧ res = ys ++ zs,
    ⟨ds.length, by omega, [], [], res, upd_same, .nil, sD (Same.refl _), by simpa using eres, rfl⟩, fun i m H2 hW => ?_⟩
  obtain ⟨em, acc, ys, zs, hD, ia, s2, ez, er⟩ := hW
  by_cases hi : i < ds.length
  · refine .inr ⟨ok.go H2 i (Same.pers s2) hi, fun H' => i + 1 + (m - 1) = ds.length ∧ ∃ acc ys zs, H' D = some (.lst acc) ∧ ImAll X.K H' acc ys ∧ Same H1 H' ∧ lc2Go b fc fi1 vs1 b1 fc1 fe (wipeE τ vs) (ds.drop (i + 1)) = .ok zs ∧ res = ys ++ zs,
      fun H' hN => ⟨m - 1, by omega, hN⟩, fun x H3 hy => ?_⟩
    have hd : ds[i]? = some ds[i] := List.getElem?_eq_getElem hi
    obtain ⟨s3, ix⟩ := ok.yld H2 i x H3 ds[i] (Same.pers s2) hy hd
    rw [List.drop_eq_getElem_cons hi] at ez
    unfold lc2Go at ez
    obtain ⟨τ1, eb, ez⟩ := bind_ok' ez
    obtain ⟨k, ec, ez⟩ := bind_ok' ez
    have rw0 : Rep X.K H0 H3 (wipeK κ vs) (wipe σ vs) (wipeE τ vs) := rr.to (s2.trans s3)
    refine ⟨wipeE τ vs, ds[i], rw0, ix, ?_⟩
    rw [eb]
    intro σ2 r2 k2
    refine ⟨wipe_eq (by rw [k2.1, wipe_length]) k2.2 hsub, τ1, r2, ?_⟩
    rw [ec]
    intro H4 s4
    have hD4 : H4 D = some (.lst acc) := s4 _ _ (s3 _ _ hD)
    have s14 : Same H1 H4 := s2.trans (s3.trans s4)
    have ia4 : ImAll X.K H4 acc ys := ia.mono (Same.pers (s3.trans s4))
    have apart : ∀ j d, τ1[j]? = some (some d) → kd (wipeK κ vs) j = .own → σ2[j]? ≠ some (some (.ref D)) := fun j d e ko z => by
      have jw : j ∉ ws := fun m => by rw [wipeK_in (hsub j m)] at ko; cases ko
      rw [pb _ _ _ eb j jw] at e
      rw [k2.2 j jw] at z
      obtain ⟨a, a1, _, a3⟩ := rr.own j d e ko
      rw [a1] at z; cases z
      obtain ⟨o, ho⟩ := a3.there
      rw [nD] at ho; cases ho
    cases k with
    | false =>
      rw [if_neg (by decide)] at ez ⊢
      exact ⟨by omega, acc, ys, zs, hD4, ia4, s14, ez, er⟩
    | true =>
      rw [if_pos rfl] at ez ⊢
      obtain ⟨ds1, ei, ez⟩ := bind_ok' ez
      obtain ⟨ins, ein, ez⟩ := bind_ok' ez
      obtain ⟨zs2, ezs, ez⟩ := bind_ok' ez
      cases ez
      refine ⟨τ1, r2.to s4, ?_⟩
      rw [ei]
      intro J1 H5 s5 ok1
      refine ⟨fun j k H => j + k = ds1.length ∧ ∃ acc ys ws2, H D = some (.lst acc) ∧ ImAll X.K H acc ys ∧ Same H1 H ∧ Pers H5 H ∧ Rep X.K H0 H (wipeK κ vs) σ2 τ1 ∧ lcGo b1 fc1 fe (wipeE τ1 vs1) (ds1.drop j) = .ok ws2 ∧ res = ys ++ (ws2 ++ zs2),
        ⟨ds1.length, by omega, acc, ys, ins, s5 _ _ hD4, ia4.mono (Same.pers s5), s14.trans s5, Pers.refl _, (r2.to s4).to s5, by simpa using ein, er⟩, fun j k H6 hW1 => ?_⟩
      obtain ⟨em1, acc, ys, ws2, hD6, ia6, s6, p6, r6, ew, er1⟩ := hW1
      by_cases hj : j < ds1.length
      · refine .inr ⟨ok1.go H6 j p6 hj, fun H' => j + 1 + (k - 1) = ds1.length ∧ ∃ acc ys ws2, H' D = some (.lst acc) ∧ ImAll X.K H' acc ys ∧ Same H1 H' ∧ Pers H5 H' ∧ Rep X.K H0 H' (wipeK κ vs) σ2 τ1 ∧ lcGo b1 fc1 fe (wipeE τ1 vs1) (ds1.drop (j + 1)) = .ok ws2 ∧ res = ys ++ (ws2 ++ zs2),
          fun H' hN => ⟨k - 1, by omega, hN⟩, fun x1 H7 hy1 => ?_⟩
        have hd1 : ds1[j]? = some ds1[j] := List.getElem?_eq_getElem hj
        obtain ⟨s7, ix1⟩ := ok1.yld H6 j x1 H7 ds1[j] p6 hy1 hd1
        rw [List.drop_eq_getElem_cons hj] at ew
        obtain ⟨τ2, eb1, ew⟩ := bind_ok' (show (b1 ds1[j] (wipeE τ1 vs1)).bind _ = .ok ws2 from ew)
        obtain ⟨k1, ec1, ew⟩ := bind_ok' ew
        refine ⟨wipeE τ1 vs1, ds1[j], (r6.to s7).wipe vs1, ix1, ?_⟩
        rw [eb1]
        intro σ3 r3 k3
        refine ⟨wipe_eq (by rw [k3.1, wipe_length]) k3.2 hsub1, τ2, r3, ?_⟩
        rw [ec1]
        intro H8 s8
        have hD8 : H8 D = some (.lst acc) := s8 _ _ (s7 _ _ hD6)
        have s18 : Same H1 H8 := s6.trans (s7.trans s8)
        have p8 : Pers H5 H8 := p6.trans (Same.pers (s7.trans s8))
        have ia8 : ImAll X.K H8 acc ys := ia6.mono (Same.pers (s7.trans s8))
        have r8 : Rep X.K H0 H8 (wipeK κ vs) σ2 τ1 := r6.to (s7.trans s8)
        cases k1 with
        | false =>
          rw [if_neg (by decide)] at ew ⊢
          exact ⟨by omega, acc, ys, ws2, hD8, ia8, s18, p8, r8, ew, er1⟩
        | true =>
          rw [if_pos rfl] at ew ⊢
          obtain ⟨y, ey, ew⟩ := bind_ok' ew
          obtain ⟨ws3, ews, ew⟩ := bind_ok' ew
          cases ew
          refine ⟨τ2, r3.to s8, ?_⟩
          rw [ey]
          intro v H9 s9 iv
          have hD9 : H9 D = some (.lst acc) := s9 _ _ hD8
          have l := ia8.length
          have m9 : Mut (H9 D) := by rw [hD9]; trivial
          have pu : Pers H9 (upd H9 D (.lst (acc ++ [v]))) := pers_upd m9
          have lr : ys.length < sizeLine := by
            have := congrArg List.length er1
            simp at this
            omega
          refine ⟨acc, hD9, by omega, by omega, acc ++ [v], ys ++ [y], ws3, upd_same, ?_, sD (s18.trans s9), p8.trans ((Same.pers s9).trans pu), (r8.to s9).other m9 n0 apart, ews, by rw [er1]; simp⟩
          exact ((ia8.mono (Same.pers s9)).append (.one iv)).mono pu
      · refine .inl ⟨ok1.stop H6 j p6 (by omega), ?_⟩
        have ej : ds1.drop j = [] := List.drop_eq_nil_of_le (by omega)
        rw [ej] at ew
        cases ew
        exact ⟨by omega, acc, ys, zs2, hD6, ia6, s6, ezs, er1⟩
  · refine .inl ⟨ok.stop H2 i (Same.pers s2) (by omega), ?_⟩
    have ei : ds.drop i = [] := List.drop_eq_nil_of_le (by omega)
    rw [ei] at ez
    cases ez
    rw [List.append_nil] at er
    subst er
    exact qr (.ref D) H2 (s1.trans s2) ⟨D, _, rfl, rfl, s1.free nD, .lst hD small ia⟩
theorem de_lc2 (hc : X.calm = true) (hN : X.N.Nodup) (hi : DI X H0 W κ tg iter fi) (ok : BlkOk X.N X.env.scope scope own) (hvs : own.map (·.2) = vs) (hv1 : ∀ i ∈ vs1, i ∈ vs) (pb : PatOk b ws)
    (hg : ∀ (s : Shared) (H : Hp) (C : Addr) (cl : List (Str × Addr)) (fp : List Addr), DP (X.blk s H scope (compEnvC scope cl C X.env) fp) H0 (wipeK κ vs) tg ws b (wipeK κ vs))
    (ht : ∀ (s : Shared) (H : Hp) (C : Addr) (cl : List (Str × Addr)) (fp : List Addr), DTs (X.blk s H scope (compEnvC scope cl C X.env) fp) H0 E0 (wipeK κ vs) ifs fc)
    (hi1 : ∀ (s : Shared) (H : Hp) (C : Addr) (cl : List (Str × Addr)) (fp : List Addr), DI (X.blk s H scope (compEnvC scope cl C X.env) fp) H0 E0 (wipeK κ vs) tg1 iter1 fi1)
    (hg1 : ∀ (s : Shared) (H : Hp) (C : Addr) (cl : List (Str × Addr)) (fp : List Addr), DP (X.blk s H scope (compEnvC scope cl C X.env) fp) H0 (wipeK (wipeK κ vs) vs1) tg1 ws1 b1 κ1)
    (ht1 : ∀ (s : Shared) (H : Hp) (C : Addr) (cl : List (Str × Addr)) (fp : List Addr), DTs (X.blk s H scope (compEnvC scope cl C X.env) fp) H0 E0 κ1 ifs1 fc1)
    (he : ∀ (s : Shared) (H : Hp) (C : Addr) (cl : List (Str × Addr)) (fp : List Addr), DE (X.blk s H scope (compEnvC scope cl C X.env) fp) H0 E0 κ1 rI elt fe)
    (hsub : ∀ j ∈ ws, j ∈ vs := by decide) (hsub1 : ∀ j ∈ ws1, j ∈ vs1 := by decide) (hs : ∀ x, foldedSetIterable iter X.env x = pure x := by intro _; rfl) (hs1 : ∀ env x, foldedSetIterable iter1 env x = pure x := by intro _ _; rfl) :
    DE X H0 W κ rN (.ListComp elt [⟨tg, iter, ifs, 0⟩, ⟨tg1, iter1, ifs1, 0⟩] scope pos) (fLc2 vs fi b fc fi1 vs1 b1 fc1 fe) :=
  ⟨(pe_lc2 (g := gD X.K H0 (wipeK κ vs) (wipeK κ vs) ws b) (tt := tT X.K X.mg H0 E0 (wipeK κ vs) fc) (wi1 := tI X.K X.mg H0 E0 (wipeK κ vs) fi1) (g1 := gD X.K H0 (wipeK (wipeK κ vs) vs1) κ1 ws1 b1) (tt1 := tT X.K X.mg H0 E0 κ1 fc1) (te := tD X.K X.mg H0 E0 κ1 rI fe) (vs1 := vs1)
      hc hN hi.pi ok (by rw [hvs]; exact hv1) (fun s H C cl fp => (hg s H C cl fp).pg) (fun s H C cl fp => (ht s H C cl fp).pt) (fun s H C cl fp => (hi1 s H C cl fp).pi) (fun s H C cl fp => (hg1 s H C cl fp).pg) (fun s H C cl fp => (ht1 s H C cl fp).pt) (fun s H C cl fp => (he s H C cl fp).pe) hs hs1).cons
    fun σ H Q h => by rw [hvs]; exact tLc2_of hsub hsub1 pb h⟩
/-- x = [.. for .. for ..] on one line -/
theorem ps_lc2 {i : Nat} {y : Str} {py spos : Pos} (hc : X.calm = true) (hN : X.N.Nodup) (hy : X.N[i]? = some y) (hyl : X.env.scope.names.lookup y = some .local)
    (hsw : swapsWith (.ListComp elt [⟨tg, iter, ifs, 0⟩, ⟨tg1, iter1, ifs1, 0⟩] scope pos) (some (.Name y py)) spos.line X.env = pure true) (hi : DI X H0 W κ tg iter fi) (ok : BlkOk X.N X.env.scope scope own) (hvs : own.map (·.2) = vs) (hv1 : ∀ i ∈ vs1, i ∈ vs) (pb : PatOk b ws)
    (hg : ∀ (s : Shared) (H : Hp) (C : Addr) (cl : List (Str × Addr)) (fp : List Addr), DP (X.blk s H scope (compEnvC scope cl C X.env) fp) H0 (wipeK κ vs) tg ws b (wipeK κ vs))
    (ht : ∀ (s : Shared) (H : Hp) (C : Addr) (cl : List (Str × Addr)) (fp : List Addr), DTs (X.blk s H scope (compEnvC scope cl C X.env) fp) H0 E0 (wipeK κ vs) ifs fc)
    (hi1 : ∀ (s : Shared) (H : Hp) (C : Addr) (cl : List (Str × Addr)) (fp : List Addr), DI (X.blk s H scope (compEnvC scope cl C X.env) fp) H0 E0 (wipeK κ vs) tg1 iter1 fi1)
    (hg1 : ∀ (s : Shared) (H : Hp) (C : Addr) (cl : List (Str × Addr)) (fp : List Addr), DP (X.blk s H scope (compEnvC scope cl C X.env) fp) H0 (wipeK (wipeK κ vs) vs1) tg1 ws1 b1 κ1)
    (ht1 : ∀ (s : Shared) (H : Hp) (C : Addr) (cl : List (Str × Addr)) (fp : List Addr), DTs (X.blk s H scope (compEnvC scope cl C X.env) fp) H0 E0 κ1 ifs1 fc1)
    (he : ∀ (s : Shared) (H : Hp) (C : Addr) (cl : List (Str × Addr)) (fp : List Addr), DE (X.blk s H scope (compEnvC scope cl C X.env) fp) H0 E0 κ1 rI elt fe)
    (hsub : ∀ j ∈ ws, j ∈ vs := by decide) (hsub1 : ∀ j ∈ ws1, j ∈ vs1 := by decide) (hs : ∀ x, foldedSetIterable iter X.env x = pure x := by intro _; rfl) (hs1 : ∀ env x, foldedSetIterable iter1 env x = pure x := by intro _ _; rfl) :
    ∃ te, PS X (.Assign [.Name y py] (.ListComp elt [⟨tg, iter, ifs, 0⟩, ⟨tg1, iter1, ifs1, 0⟩] scope pos) spos) (tAsg te (gName i)) ∧ ∀ σ H Q, tD X.K X.mg H0 W κ rN (fLc2 vs fi b fc fi1 vs1 b1 fc1 fe) σ H Q → te σ H Q :=
  ⟨_, ps_setLc2 (g := gD X.K H0 (wipeK κ vs) (wipeK κ vs) ws b) (tt := tT X.K X.mg H0 E0 (wipeK κ vs) fc) (wi1 := tI X.K X.mg H0 E0 (wipeK κ vs) fi1) (g1 := gD X.K H0 (wipeK (wipeK κ vs) vs1) κ1 ws1 b1) (tt1 := tT X.K X.mg H0 E0 κ1 fc1) (te := tD X.K X.mg H0 E0 κ1 rI fe) (vs1 := vs1)
      hc hN hy hyl hsw hi.pi ok (by rw [hvs]; exact hv1) (fun s H C cl fp => (hg s H C cl fp).pg) (fun s H C cl fp => (ht s H C cl fp).pt) (fun s H C cl fp => (hi1 s H C cl fp).pi) (fun s H C cl fp => (hg1 s H C cl fp).pg) (fun s H C cl fp => (ht1 s H C cl fp).pt) (fun s H C cl fp => (he s H C cl fp).pe) hs hs1,
    fun σ H Q h => by rw [hvs]; exact tLc2_of hsub hsub1 pb h⟩
theorem lc2_list : ∀ τ d, fLc2 vs fi b fc fi1 vs1 b1 fc1 fe τ = .ok d → ∃ xs, d = .list xs := fun τ d h => by
  obtain ⟨_, _, h⟩ := bind_ok' h
  obtain ⟨ys, _, h⟩ := bind_ok' h
  split at h
  · cases h; exact ⟨ys, rfl⟩
  · cases h
/-- x = [.. for .. for ..] on one line, kept -/
theorem set_lc2 {st : Stmt} {ρr : Res} {i : Nat} (h : ∃ te, PS X st (tAsg te (gName i)) ∧ ∀ σ H Q, tD X.K X.mg H0 W κ rN (fLc2 vs fi b fc fi1 vs1 b1 fc1 fe) σ H Q → te σ H Q) (hk : i < κ.length) :
    DS X H0 W ρr κ st (sSet i (fLc2 vs fi b fc fi1 vs1 b1 fc1 fe)) (κ.set i .imm) := by
  have q := ds_lock (ρr := ρr) (setN_of h hk) (by rw [kd_set hk, if_pos rfl]) (by rw [List.length_set]; exact hk) lc2_list
  rw [List.set_set] at q
  exact q
end
/-! ### recursion -/
theorem Cal.none {P : Program} {w : World} {K : PySem.W.Frag} {mg : Str → Option Value} {base : Heap} {nm : Str} {st : Stmt} {ps : List Str} {ks : List Kd} {ρ : Res} (d : DefIn K mg nm st ps) : Cal P w K mg base nm 0 ks ρ (fun _ => .bad) := by
  obtain ⟨fA, fd, F, G, B⟩ := d.ex
  exact ⟨fA, fd, ps, ⟨fun vs H Q E ⟨_, _, h⟩ => h.elim, fun A outer s H args us vs Q E _ _ _ _ ⟨_, _, h⟩ => h.elim⟩, G, F.kp, B⟩
end PL
set_option Elab.async false
set_option linter.all false
set_option maxRecDepth 100000
set_option maxHeartbeats 1000000
/-! PL23: an own list handed back out of a test. -/
namespace PL
open PySem PySem.Spec PyProof.Rows L2
/-- as rQ, new since the def began -/
def rQ0 (H0 : Hp) : Res := fun K _ H' v d => rQ K H0 H' v d
theorem good_Q0 {H0 : Hp} : Res.Good (rQ0 H0) := ⟨fun _ _ _ _ _ _ _ h => h⟩
theorem le_IQ0 {H0 : Hp} : Res.Le rI (rQ0 H0) := ⟨fun _ _ _ _ _ h => .inl h⟩
def fVarL (i : Nat) : Env → R D := fun τ => match τ[i]? with | some (some (.list xs)) => .ok (.list xs) | _ => .bad
section
variable {X : Cx} {H0 : Hp} {W : XK} {κ κ1 : Kds} {ρr : Res} {e : Expr} {f : Env → R D} {pos : Pos} {st : Stmt}
theorem de_varQ0 (i : Nat) {x : Str} (hk : kd κ i = .own := by rfl) (hN : X.N[i]? = some x := by rfl) (hv : Vis X.env.scope x := by first | exact Or.inl rfl | exact Or.inr (Or.inl rfl) | exact Or.inr (Or.inr rfl))
    (hd : (x == ("__debug__" : Str)) = false := by decide) (hcd : (x == ("__classdict__" : Str)) = false := by decide) : DE X H0 W κ (rQ0 H0) (.Name x pos) (fVarL i) :=
  ⟨(pe_var hN hv hd hcd).cons fun σ H Q ⟨τ, r, q⟩ => by
    unfold fVarL at q
    split at q
    · rename_i xs e
      obtain ⟨a, h1, h2, h3⟩ := r.own i _ e hk
      exact ⟨.ref a, h1, q (.ref a) H (Same.refl H) (.inr ⟨a, _, rfl, rfl, h2, h3⟩)⟩
    · exact q.elim⟩
/-- a new list, in a def: as one new since the def began -/
theorem DE.toQ0 (h : DE X H0 W κ rQ e f) : DE X H0 W κ (rQ0 H0) e f :=
  ⟨h.pe.cons fun σ H Q ⟨τ, r, q⟩ => ⟨τ, r, PostA.imp q fun d qd v H1 s1 hv => qd v H1 s1 (good_Q.anti _ _ _ _ _ _ r.same hv)⟩⟩
theorem ds_retQ0 (h : DE X H0 W κ (rQ0 H0) e f) (l : Res.Le rQ ρr) : DS X H0 W ρr κ (.Return (some e) pos) (sRet f) κ1 :=
  ⟨(ps_ret h.pe).cons fun D σ H ⟨τ, r, q⟩ => ⟨τ, r, PostA.imp (PostA.to (PostA.bind q) r.same) fun d qd v H1 s1 hv => qd v H1 (r.same.trans s1) (l.le _ _ _ _ _ hv)⟩⟩
end
end PL
set_option Elab.async false
set_option linter.all false
set_option maxRecDepth 100000
set_option maxHeartbeats 2000000
/-! PL24: a comprehension with one for, whatever it gathers in. -/
namespace PL
open PySem PySem.Spec PyProof.Rows L2
/-- one turn of the block, the thing u at hand: act is what a kept turn does -/
def turnAt (M : Model) (A : Around) (env : PySem.Env) (tg : Expr) (it : Value) (ifs : List Expr) (u : Value) (NE : Value → Shared → Prop) (act : (Shared → Prop) → Shared → Prop) (G : Shared → Prop) : Shared → Prop := fun s =>
  wpAny M A (letOwnedTupleGo tg it u) (fun _ s1 => wpAny M A (assign tg env u) (fun _ s2 =>
    wpAny M A (forIn ifs true fun c r => if r = true then do let ok ← isTrue c env (eval c env); pure (ForInStep.yield ok) else pure (ForInStep.yield r)) (fun ok s3 => if ok = true then act G s3 else G s3) NE s2) NE s1) NE s
/-- the loop of e's block, by turns -/
def LoopBy (P : Program) (w : World) (A : Around) (e tg iter : Expr) (ifs : List Expr) (act : Addr → PySem.Env → (Value → Shared → Prop) → (Shared → Prop) → Shared → Prop) : Prop :=
  ∀ (R : Result → Shared → Prop) (s : Shared) (it : Value) (D : Addr) (env : PySem.Env) (I : Nat → Shared → Prop),
    (∀ n s, I n s → wpAny (model P w) A (pyNext it) (fun r s1 => match r with
      | none => R (.ok .next) s1
      | some u => turnAt (model P w) A env tg it ifs u (notedBy (model P w) A env fun x s' => R (.error x) s') (act D env (notedBy (model P w) A env fun x s' => R (.error x) s')) (fun s' => ∃ m, m < n ∧ I m s') s1) (notedBy (model P w) A env fun x s' => R (.error x) s') s) →
    ∀ n, I n s → codeAny (model P w) A (.compLoop e 0 it (.ref D) env) R s
def StartBy (P : Program) (w : World) (A : Around) (e : Expr) : Prop :=
  ∀ (R : Result → Shared → Prop) (s : Shared) (it acc : Value) (env : PySem.Env), codeAny (model P w) A (.compLoop e 0 it acc env) R s →
    wpAny (model P w) A (pyIter it) (fun it' s' => codeAny (model P w) A (.compLoop e 0 it' acc env) R s') (notedBy (model P w) A env fun x s' => R (.error x) s') s → codeAny (model P w) A (.compStart e 0 it acc env) R s
section
variable {X : Cx}
/-- what is asked of such a comprehension: U0 D stands at D at first; ta: what a kept turn asks -/
def tGc (wi : TI) (g : TG) (tt : TT) (ta : Addr → L2.St → Hp → (Hp → Prop) → Prop) (U0 : Addr → HO) (vs : List Nat) : TE := fun σ H Q => wi σ H fun J H1 => ∀ D, H1 D = none → ∃ W : Nat → Nat → Hp → Prop, (∃ m, W 0 m (upd H1 D (U0 D))) ∧
  ∀ i m H, W i m H → (J.stop i H ∧ Q (.ref D) H) ∨ (J.go i H ∧ ∃ Nx : Hp → Prop, (∀ H', Nx H' → ∃ m', m' < m ∧ W (i + 1) m' H') ∧
    ∀ x H', J.yld i H x H' → g x (wipe σ vs) H' fun σ2 H2 => wipe σ2 vs = wipe σ vs ∧ tt σ2 H2 fun b H3 => if b = true then ta D σ2 H3 Nx else Nx H3)
theorem gc_core {pins : List (Addr × Obj)} {s : Shared} {σ : L2.St} {H : Hp} {Q : VK} {e tg iter : Expr} {ifs : List Expr} {scope : Scope} {own : List (Str × Nat)} {pos : Pos} {wi : TI} {g : TG} {tt : TT} {ta : Addr → L2.St → Hp → (Hp → Prop) → Prop} {U0 : Addr → HO} {O : Obj} {mk : Sem Value}
    {act : Addr → PySem.Env → (Value → Shared → Prop) → (Shared → Prop) → Shared → Prop} {use : Option (Value → Sem Unit)} {Qf : Value → Shared → Prop}
    (hcl : clausesOf e = [⟨tg, iter, ifs, 0⟩]) (hloop : LoopBy X.prog X.w X.A e tg iter ifs act) (hstart : StartBy X.prog X.w X.A e)
    (hmk : ∀ (s : Shared) (Qv : Value → Shared → Prop) (Ev : Value → Shared → Prop), Qv (.ref s.heap.objs.size) { s with heap := s.heap.push O } → wpAny (model X.prog X.w) X.A mk Qv Ev s)
    (hO : ∀ (H : Hp) (h : Heap), sysModules < h.objs.size → ObjOk X.prog X.w H (h.push O) h.objs.size (U0 h.objs.size))
    (hc : X.calm = true) (hN : X.N.Nodup) (I : Inv X pins σ H s) (hi : PI X tg iter wi) (ok : BlkOk X.N X.env.scope scope own)
    (hg : ∀ (s : Shared) (H : Hp) (C : Addr) (cl : List (Str × Addr)) (fp : List Addr), PG (X.blk s H scope (compEnvC scope cl C X.env) fp) tg g)
    (ht : ∀ (s : Shared) (H : Hp) (C : Addr) (cl : List (Str × Addr)) (fp : List Addr), PTs (X.blk s H scope (compEnvC scope cl C X.env) fp) ifs tt)
    (ha : ∀ (s : Shared) (H : Hp) (C : Addr) (cl : List (Str × Addr)) (fp : List Addr) (D : Addr) (pins : List (Addr × Obj)) (s1 : Shared) (σ1 : L2.St) (H1 : Hp) (Nx : Hp → Prop) (NE : Value → Shared → Prop) (G : Shared → Prop),
      Inv (X.blk s H scope (compEnvC scope cl C X.env) fp) pins σ1 H1 s1 → ta D σ1 H1 Nx → (∀ s2 H2, Inv (X.blk s H scope (compEnvC scope cl C X.env) fp) pins σ1 H2 s2 → Nx H2 → G s2) → act D (compEnvC scope cl C X.env) NE G s1)
    (hs : ∀ x, foldedSetIterable iter X.env x = pure x) (h : tGc wi g tt ta U0 (own.map (·.2)) σ H Q)
    (hend : ∀ D C s' m H', Inv X pins σ H' s' → Q (.ref D) H' → s'.heap.Ns C m → FpOk X pins H' C → compPost (model X.prog X.w) X.A X.xe use Qf (.ref D) C (.ok .next) s') :
    wpAny (model X.prog X.w) X.A (comprehension e scope X.env pos mk false (eval iter X.env) use) Qf X.xe s := by
  have cells : ∀ y ∈ scope.names, y.2 = .free → ∃ c, X.env.cells.lookup y.1 = some c := fun y hy z => (ok.free y hy z).elim (fun k => I.ok.has _ (.inl k)) fun k => I.ok.has _ (.inr k)
  refine wpAny_comprehension_free hcl hs (closure_ok cells) ok.kind (fun y hy z => (ok.uniq y hy).trans (by rw [z])) ?_
  refine thn (hi.run pins s σ H _ I h) fun _ sA kA => thn kA fun _ s2 ⟨it, fp, tn, J, H2, e0, I2, T, st2, f2, q⟩ => ?_
  subst e0
  refine hmk _ _ _ (newEnv_comp ?_)
  obtain ⟨D, eD⟩ : ∃ D, D = s2.heap.objs.size := ⟨_, rfl⟩
  have free2 : H2 D = none := I2.hok.fresh (by rw [eD]; exact Nat.le_refl _)
  obtain ⟨W, ⟨m0, w0⟩, turn⟩ := q D free2
  have grow : ∀ (b : Addr) (o : Obj), s2.heap.get? b = some o → (s2.heap.push O).get? b = some o := fun _ _ z => Heap.get?_push_of_some _ z
  -- the gatherer stands
  have Inew : Inv X pins σ (upd H2 D (U0 D)) { s2 with heap := s2.heap.push O } := I2.laid (t' := s2.toks) grow (by rw [eD]; exact Nat.le_refl _) (by rw [eD]; exact hO _ _ I2.big)
  rw [← eD]
  obtain ⟨s3, e3⟩ : ∃ s3 : Shared, s3 = { s2 with heap := s2.heap.push O } := ⟨_, rfl⟩
  rw [← e3] at Inew
  have h3 : s3.heap = s2.heap.push O := by rw [e3]
  have small : ∀ b ∈ fp, b < D := fun b hb => by obtain ⟨o, z, _⟩ := T.obj _ _ st2 b hb; rw [eD]; exact Heap.lt_size z
  have f3 : ∀ b ∈ fp, FpOk X pins (upd H2 D (U0 D)) b ∧ b < s3.heap.objs.size := fun b hb => by
    obtain ⟨z1, z2⟩ := f2 b hb
    refine ⟨⟨by rw [upd_ne (Nat.ne_of_lt (small b hb))]; exact z1, z2⟩, ?_⟩
    rw [h3, Heap.size_push, ← eD]
    exact Nat.lt_succ_of_lt (small b hb)
  have st3 : tn 0 s3.heap := T.keep _ _ _ st2 fun b _ o z => by rw [h3]; exact grow b o z
  have Ib := block_start Inew ok hN f3
  obtain ⟨C, eC⟩ : ∃ C, C = s3.heap.objs.size := ⟨_, rfl⟩
  obtain ⟨cl, ecl⟩ : ∃ cl, cl = cellsFrom (s3.heap.objs.size + 1) scope.names (cloFrom X.env.cells scope.names []) := ⟨_, rfl⟩
  obtain ⟨H3, eH⟩ : ∃ H3, H3 = upd H2 D (U0 D) := ⟨_, rfl⟩
  obtain ⟨s4, e4⟩ : ∃ s4 : Shared, s4 = { s3 with heap := pushCells (s3.heap.push { cls := .type "dict", data := .dict #[] }) scope.names } := ⟨_, rfl⟩
  rw [← eH, ← ecl, ← eC, ← e4] at Ib
  have go : codeAny (model X.prog X.w) X.A (.compStart e 0 (.ref it) (.ref D) (compEnvC scope cl C X.env)) (compPost (model X.prog X.w) X.A X.xe use Qf (.ref D) C) s4 := by
    have tn4 : tn 0 s4.heap := T.keep _ _ _ st3 fun b _ o z => by rw [e4]; exact pushCells_keeps _ _ _ _ (Heap.get?_push_of_some _ z)
    rw [← eH] at f3 w0 Inew
    have nof : ∀ b ∈ fp, H3 b = none := fun b hb => (f3 b hb).1.1
    have held : ∀ {σ' : L2.St} {H' : Hp} {s' : Shared}, Inv (X.blk s3 H3 scope (compEnvC scope cl C X.env) fp) [] σ' H' s' → (∀ b ∈ fp, H' b = none) → ∀ b ∈ fp, FpOk (X.blk s3 H3 scope (compEnvC scope cl C X.env) fp) [] H' b := fun I' n b hb => by
      have k := I'.ok.exf b hb
      exact ⟨n b hb, k.1, I'.ok.exfs b hb, .inl hb, fun x c => k.2 x c, fun p hp => nomatch (show p ∈ ([] : List (Addr × Obj)) from by simpa using hp)⟩
    have loop := hloop (compPost (model X.prog X.w) X.A X.xe use Qf (.ref D) C) s4 (.ref it) D (compEnvC scope cl C X.env)
      (fun n s' => ∃ i H', Inv (X.blk s3 H3 scope (compEnvC scope cl C X.env) fp) [] (wipe σ (own.map (·.2))) H' s' ∧ tn i s'.heap ∧ (∀ b ∈ fp, H' b = none) ∧ W i n H')
      (by
        rintro n s5 ⟨i, H5, I5, t5, n5, w5⟩
        rcases turn i n H5 w5 with ⟨stop, qq⟩ | ⟨more, Nx, hNx, step⟩
        · refine thnF (T.done (X.blk s3 H3 scope (compEnvC scope cl C X.env) fp) rfl rfl rfl hc i [] s5 _ H5 (fun _ _ => False) I5 (held I5 n5) t5 stop) fun r s6 hr6 => ?_
          obtain ⟨rfl, I6⟩ := hr6
          have back : Inv X pins σ H5 s6 := Inew.call' (ch := fp) I6.os I6.base I6.hok I6.bare fun b hb => by
            have z := (f3 b hb).1.2
            exact ⟨z.2.2.1, z.1, z.2.2.2.1, z.2.2.2.2⟩
          obtain ⟨m, hn, _⟩ := I6.loc
          exact hend D C s6 m H5 back qq hn (Inew.fpOk (by rw [eC]; exact Nat.le_refl _) I6.free)
        · refine thnF (T.item (X.blk s3 H3 scope (compEnvC scope cl C X.env) fp) rfl rfl rfl hc i [] s5 _ H5 (fun _ _ => False) I5 (held I5 n5) t5 more) fun r s6 hr6 => ?_
          obtain ⟨u, rfl, h6⟩ := hr6
          refine thnF h6 fun _ s7 ⟨x, H7, I7, r7, y7, t7, n7⟩ => ?_
          have Ip := I7.pinned (held I7 n7) (T.obj _ _ t7)
          refine thnF ((hg s3 H3 C cl fp).run _ s7 _ H7 x u _ Ip r7 (step x H7 y7)) fun _ s8 ⟨σ8, H8, I8, w8, q8⟩ => ?_
          refine thnF ((ht s3 H3 C cl fp).run _ s8 σ8 H8 _ I8 q8) fun b s9 ⟨H9, I9, q9⟩ => ?_
          have nextTurn : ∀ s' H', Inv (X.blk s3 H3 scope (compEnvC scope cl C X.env) fp) ([] ++ pinsAt fp s7.heap) σ8 H' s' → Nx H' → ∃ m, m < n ∧ ∃ i H', Inv (X.blk s3 H3 scope (compEnvC scope cl C X.env) fp) [] (wipe σ (own.map (·.2))) H' s' ∧ tn i s'.heap ∧ (∀ b ∈ fp, H' b = none) ∧ W i m H' := fun s' H' I' nx => by
            obtain ⟨m', hm, w'⟩ := hNx H' nx
            have pinned : ∀ b ∈ fp, ∀ o, s7.heap.get? b = some o → s'.heap.get? b = some o ∧ H' b = none := fun b hb o z =>
              have k := I'.pin (b, o) (List.mem_append_right _ (List.mem_append_right _ (mem_pinsAt hb z)))
              ⟨k.1, k.2.1⟩
            refine ⟨m', hm, i + 1, H', (I'.unpinned (pins := [])).weak (by rw [wipe_length, ← wipe_length σ8 (own.map (·.2)), w8, wipe_length]) (fun j v z => ?_), T.keep _ _ _ t7 fun b hb o z => (pinned b hb o z).1, fun b hb => ?_, w'⟩
            · rw [← w8] at z; exact (wipe_some z).1
            · obtain ⟨o, z, _⟩ := T.obj _ _ t7 b hb; exact (pinned b hb o z).2
          cases b with
          | false => exact nextTurn _ _ I9 q9
          | true => exact ha s3 H3 C cl fp D _ s9 σ8 H9 Nx _ _ I9 q9 nextTurn)
      m0 ⟨0, H3, Ib, tn4, nof, w0⟩
    exact hstart _ _ _ _ _ loop (T.self X.A 0 _ _ _ tn4 loop)
  rw [eC, ecl, e4] at go
  have fin := go
  rw [e3] at fin
  exact fin
end
end PL
set_option Elab.async false
set_option linter.all false
set_option maxRecDepth 100000
set_option maxHeartbeats 2000000
/-! PL25: dict comprehensions keyed by tuples; set comprehensions that are sorted or counted. -/
namespace PL
open PySem PySem.Spec PyProof.Rows L2
/-! ### dicts keyed by tuples -/
def actD (P : Program) (w : World) (A : Around) (kx vx : Expr) : Addr → PySem.Env → (Value → Shared → Prop) → (Shared → Prop) → Shared → Prop := fun D env NE G s =>
  wpAny (model P w) A (eval kx env) (fun kv s1 => wpAny (model P w) A (eval vx env) (fun vv s2 => wpAny (model P w) A (dictSet D kv vv) (fun _ s3 => G s3) NE s2) NE s1) NE s
theorem dictSet_tup {X : Cx} {pins : List (Addr × Obj)} {σ : L2.St} {H : Hp} {s : Shared} {E : Value → Shared → Prop} {D b : Addr} {kvs : List (List Key × V)} {k : List Key} {v : V} {r : Value} {Q : Unit → Shared → Prop} (hu : X.A.units < cLine) (I : Inv X pins σ H s) (hD : H D = some (.dT kvs)) (hb : H b = some (.tup (k.map kV)))
    (hz : kvs.length < sizeLine) (rv : RelV v r) (h : ∀ s', Inv X pins σ (upd H D (.dT (putK kvs k v))) s' → Q () s') : wpAny (model X.prog X.w) X.A (dictSet D (.ref b) r) Q E s := by
  obtain ⟨z, nd, xs, rel, dd⟩ := dt_of I.hok hD
  have l1 := Paired.length rel
  have l2 := length_putK kvs k v
  refine wpAny_dictSet_heap (hsz := by omega) (show (tupleKind (mixKind X.prog X.w)).room X.A from hu) (key_of I.hok hb) dd fun h' dd' sb => h _ ?_
  obtain ⟨o, es, ep, ho, c1, c2, c3, _, c4⟩ := dd'
  have keep : ∀ c ys, H c = some (.tup ys) → (upd H D (.dT (putK kvs k v))) c = some (.tup ys) := fun c ys ec => (upd_ne (ne_of ec hD (fun z => nomatch z))).trans ec
  exact d_write I (by rw [hD]; trivial) sb ⟨o, ho⟩ ⟨by omega, nd, _, (rel.put k hb rv).keeps keep, o, es, ep, ho, c1, c2, c3, c4⟩
noncomputable def dtGo (b : D → Env → R Env) (c : Env → R Bool) (fk fv : Env → R D) (τ0 : Env) : List D → List (D × D) → R (List (D × D))
  | [], kvs => .ok kvs
  | d :: ds, kvs => (b d τ0).bind fun τ1 => (c τ1).bind fun k => if k = true then (fk τ1).bind fun x => (fv τ1).bind fun y => match x with
      | .tuple ks => if ks.all isKey = true ∧ kvs.length < sizeLine then dtGo b c fk fv τ0 ds (dSet kvs x y) else .bad
      | _ => .bad
    else dtGo b c fk fv τ0 ds kvs
/-- {k: v for ..}, each k a tuple -/
noncomputable def fDcT (vs : List Nat) (it : Env → R (List D)) (b : D → Env → R Env) (c : Env → R Bool) (fk fv : Env → R D) : Env → R D := fun τ => (it τ).bind fun ds => (dtGo b c fk fv (wipeE τ vs) ds []).calm.bind fun kvs => .ok (.dict ((.none, .none) :: kvs))
section
variable {X : Cx} {H0 : Hp} {W : XK} {κ κ' : Kds} {tg iter kx vx c : Expr} {ifs : List Expr} {vs ws : List Nat} {b : D → Env → R Env} {fi : Env → R (List D)} {fc : Env → R Bool} {fk fv : Env → R D} {pos : Pos} {scope : Scope} {own : List (Str × Nat)}
theorem dSet_mark (l : List (D × D)) (ks : List D) (d : D) : dSet ((.none, .none) :: l) (.tuple ks) d = (.none, .none) :: dSet l (.tuple ks) d := by
  unfold dSet
  rw [List.any_cons]
  have e : decide ((PyData.none, PyData.none).1 = PyData.tuple ks) = false := decide_eq_false nofun
  rw [e, Bool.false_or]
  split
  · rw [List.map_cons, if_neg (show ¬ (PyData.none, PyData.none).1 = PyData.tuple ks from nofun)]
  · rfl
/-- what a kept turn asks -/
def taT (K : PySem.W.Frag) (tk tv : TE) : Addr → L2.St → Hp → (Hp → Prop) → Prop := fun D σ H Nx => tk σ H fun y H1 => tv σ H1 fun z H2 => ∃ b kvs k, y = .ref b ∧ H2 b = some (.tup (k.map kV)) ∧ H2 D = some (.dT kvs) ∧ kvs.length < sizeLine ∧ Nx (upd H2 D (.dT (putK kvs k z)))
theorem imT {K : PySem.W.Frag} {H : Hp} {y : V} {ks : List Key} (h : Im K H y (.tuple (ks.map keyD))) : ∃ b, y = .ref b ∧ H b = some (.tup (ks.map kV)) ∧ ∀ k ∈ ks, kOk k := by
  obtain ⟨a, xs, rfl, e, i, z⟩ := im_tupK h
  exact ⟨_, rfl, by rw [e, imAll_keys i], imAll_kOk i⟩
theorem tDcT_of {σ : L2.St} {H : Hp} {Q : VK} (hsub : ∀ j ∈ ws, j ∈ vs) (h : tD X.K X.mg H0 W κ rM (fDcT vs fi b fc fk fv) σ H Q) :
    tGc (tI X.K X.mg H0 W κ fi) (gD X.K H0 (wipeK κ vs) κ' ws b) (tT X.K X.mg H0 E0 κ' fc) (taT X.K (tD X.K X.mg H0 E0 κ' rI fk) (tD X.K X.mg H0 E0 κ' rI fv)) (fun _ => .dT []) vs σ H Q := by
  obtain ⟨τ, r, q⟩ := h
  refine ⟨τ, r, PostA.imp (PostA.bind q) fun ds qd J H1 s1 ok D nD => ?_⟩
  obtain ⟨res, eres, qr⟩ := lc_ok (PostA.bind qd)
  have sD : ∀ {H o}, Same H1 H → Same H1 (upd H D o) := fun s => same_put s nD
  refine ⟨fun i m H => i + m = ds.length ∧ ∃ ks vds, H D = some (.dT ks) ∧ ImAll X.K H (ks.map (·.2)) vds ∧ (∀ p ∈ ks, ∀ k ∈ p.1, kOk k) ∧ Same H1 H ∧ dtGo b fc fk fv (wipeE τ vs) (ds.drop i) ((ks.map fun p => .tuple (p.1.map keyD)).zip vds) = .ok res,
    ⟨ds.length, by omega, [], [], upd_same, .nil, fun _ h => absurd h List.not_mem_nil, sD (Same.refl _), by simpa using eres⟩, fun i m H2 hW => ?_⟩
  obtain ⟨em, ks, vds, hD, ia, ko, s2, ez⟩ := hW
  by_cases hi : i < ds.length
  · refine .inr ⟨ok.go H2 i (Same.pers s2) hi, fun H' => i + 1 + (m - 1) = ds.length ∧ ∃ ks vds, H' D = some (.dT ks) ∧ ImAll X.K H' (ks.map (·.2)) vds ∧ (∀ p ∈ ks, ∀ k ∈ p.1, kOk k) ∧ Same H1 H' ∧ dtGo b fc fk fv (wipeE τ vs) (ds.drop (i + 1)) ((ks.map fun p => .tuple (p.1.map keyD)).zip vds) = .ok res,
      fun H' hN => ⟨m - 1, by omega, hN⟩, fun x H3 hy => ?_⟩
    obtain ⟨s3, ix⟩ := ok.yld H2 i x H3 ds[i] (Same.pers s2) hy (List.getElem?_eq_getElem hi)
    rw [List.drop_eq_getElem_cons hi] at ez
    unfold dtGo at ez
    obtain ⟨τ1, eb, ez⟩ := bind_ok' ez
    obtain ⟨k, ec, ez⟩ := bind_ok' ez
    refine ⟨wipeE τ vs, ds[i], ((r.to s1).wipe vs).to (s2.trans s3), ix, ?_⟩
    rw [eb]
    intro σ2 r2 k2
    refine ⟨wipe_eq (by rw [k2.1, wipe_length]) k2.2 hsub, τ1, r2, ?_⟩
    rw [ec]
    intro H4 s4
    have hD4 : H4 D = some (.dT ks) := s4 _ _ (s3 _ _ hD)
    have s14 : Same H1 H4 := s2.trans (s3.trans s4)
    have ia4 : ImAll X.K H4 (ks.map (·.2)) vds := ia.mono (Same.pers (s3.trans s4))
    cases k with
    | false =>
      rw [if_neg (by decide)] at ez ⊢
      exact ⟨by omega, ks, vds, hD4, ia4, ko, s14, ez⟩
    | true =>
      rw [if_pos rfl] at ez ⊢
      obtain ⟨xk, ek, ez⟩ := bind_ok' ez
      obtain ⟨xv, ev, ez⟩ := bind_ok' ez
      refine ⟨τ1, r2.to s4, ?_⟩
      rw [ek]
      intro y H5 s5 iy
      refine ⟨τ1, (r2.to s4).to s5, ?_⟩
      rw [ev]
      intro z H6 s6 iz
      cases xk with
      | tuple kd =>
        dsimp only at ez
        by_cases okk : kd.all isKey = true ∧ ((ks.map fun p => PyData.tuple (p.1.map keyD)).zip vds).length < sizeLine
        · rw [if_pos okk] at ez
          obtain ⟨kk, rfl⟩ := keys_of okk.1
          obtain ⟨bb, rfl, hb, kok⟩ := imT iy
          have hl : ks.length = vds.length := by have := ia.length; simpa using this
          obtain ⟨vds', l', e', i'⟩ := zip_T hl kk z xv
          have hD6 : H6 D = some (.dT ks) := s6 _ _ (s5 _ _ hD4)
          have m6 : Mut (H6 D) := by rw [hD6]; trivial
          have pu : Pers H6 (upd H6 D (.dT (putK ks kk z))) := pers_upd m6
          refine ⟨bb, ks, kk, rfl, s6 _ _ hb, hD6, by have := okk.2; simp [hl] at this; omega, by omega, putK ks kk z, vds', upd_same, (i' _ _ (ia4.mono (Same.pers (s5.trans s6))) iz).mono pu, fun p hp => ?_, sD (s14.trans (s5.trans s6)), by rw [dSet_mark] at e'; rw [← List.tail_eq_of_cons_eq e']; exact ez⟩
          unfold putK at hp
          split at hp
          · obtain ⟨q0, hq0, rfl⟩ := List.mem_map.mp hp
            have := ko q0 hq0
            split <;> exact this
          · rcases List.mem_append.mp hp with hp | hp
            · exact ko p hp
            · rw [List.mem_singleton.mp hp]; exact kok
        · rw [if_neg okk] at ez; cases ez
      | _ => cases ez
  · refine .inl ⟨ok.stop H2 i (Same.pers s2) (by omega), ?_⟩
    have ei : ds.drop i = [] := List.drop_eq_nil_of_le (by omega)
    rw [ei] at ez
    cases ez
    exact qr (.ref D) H2 (s1.trans s2) ⟨D, _, rfl, rfl, s1.free nD, .dT hD ko ia⟩
theorem act_T {kx vx : Expr} {tk tv : TE} (hu : X.A.units + 65 < cLine) {D : Addr} {pins : List (Addr × Obj)} {s1 : Shared} {σ1 : L2.St} {H1 : Hp} {Nx : Hp → Prop} {NE : Value → Shared → Prop} {G : Shared → Prop} (hk : PE X kx tk) (he : PE X vx tv) (hxe : X.xe = fun _ _ => False)
    (I1 : Inv X pins σ1 H1 s1) (a : taT X.K tk tv D σ1 H1 Nx) (hG : ∀ s2 H2, Inv X pins σ1 H2 s2 → Nx H2 → G s2) : actD X.prog X.w X.A kx vx D X.env NE G s1 := by
  have hk' := fun pins s σ H Q I h => hk.run pins s σ H Q I h
  have he' := fun pins s σ H Q I h => he.run pins s σ H Q I h
  rw [hxe] at hk' he'
  refine thnF (hk' pins s1 σ1 H1 _ I1 a) fun kv s2 ⟨y, H2, I2, r2, a2⟩ => ?_
  refine thnF (he' pins s2 σ1 H2 _ I2 a2) fun vv s3 ⟨z, H3, I3, r3, bb, kvs, k, ey, hb, hD, hz, nx⟩ => ?_
  subst ey
  cases r2
  exact dictSet_tup (show X.A.units < cLine by omega) I3 hD hb hz r3 fun s4 I4 => hG _ _ I4 nx
theorem de_dcT (hu : X.A.units + 65 < cLine) (hc : X.calm = true) (hN : X.N.Nodup) (hi : DI X H0 W κ tg iter fi) (ok : BlkOk X.N X.env.scope scope own) (hvs : own.map (·.2) = vs)
    (hg : ∀ (s : Shared) (H : Hp) (C : Addr) (cl : List (Str × Addr)) (fp : List Addr), DP (X.blk s H scope (compEnvC scope cl C X.env) fp) H0 (wipeK κ vs) tg ws b κ')
    (ht : ∀ (s : Shared) (H : Hp) (C : Addr) (cl : List (Str × Addr)) (fp : List Addr), DTs (X.blk s H scope (compEnvC scope cl C X.env) fp) H0 E0 κ' ifs fc)
    (hk : ∀ (s : Shared) (H : Hp) (C : Addr) (cl : List (Str × Addr)) (fp : List Addr), DE (X.blk s H scope (compEnvC scope cl C X.env) fp) H0 E0 κ' rI kx fk)
    (he : ∀ (s : Shared) (H : Hp) (C : Addr) (cl : List (Str × Addr)) (fp : List Addr), DE (X.blk s H scope (compEnvC scope cl C X.env) fp) H0 E0 κ' rI vx fv)
    (hsub : ∀ j ∈ ws, j ∈ vs := by decide) (hs : ∀ x, foldedSetIterable iter X.env x = pure x := by intro _; rfl) : DE X H0 W κ rM (.DictComp kx vx [⟨tg, iter, ifs, 0⟩] scope pos) (fDcT vs fi b fc fk fv) :=
  ⟨⟨fun pins s σ H Q I ⟨τ, r, q⟩ => by
    rw [arm_eval_DictComp]
    refine gc_core (Q := Q) (g := gD X.K H0 (wipeK κ vs) κ' ws b) (tt := tT X.K X.mg H0 E0 κ' fc) (ta := taT X.K (tD X.K X.mg H0 E0 κ' rI fk) (tD X.K X.mg H0 E0 κ' rI fv)) (U0 := fun _ => .dT []) (O := { cls := .type "dict", data := .dict #[] }) (act := actD X.prog X.w X.A kx vx) rfl
      (fun R s it D env I turn n h => ?_) (fun R s it acc env h0 h => codeAny_compStart_dict h0 h) (fun s Qv Ev h => wpAny_newObj_type h) (fun H h hb => dt_empty h hb) hc hN I hi.pi ok
      (fun s H C cl fp => (hg s H C cl fp).pg) (fun s H C cl fp => (ht s H C cl fp).pt) (fun s H C cl fp D pins s1 σ1 H1 Nx NE G I1 a hG => ?_) hs ?_ fun D C s' m H' I' q hn f => ⟨m, hn, fun h'' sb => ?_⟩
    · exact compLoop_anyD I turn n h
    · exact act_T (X := X.blk s H scope (compEnvC scope cl C X.env) fp) hu (hk s H C cl fp).pe (he s H C cl fp).pe rfl I1 a hG
    · rw [hvs]; exact tDcT_of hsub ⟨τ, r, q⟩
    · obtain ⟨f0, f1, f2, f3, f4, f5⟩ := f
      exact ⟨.ref D, H', I'.turned (t' := s'.toks) (fun b o hb z => (sb.2 b hb).trans z) f0 f1 f3 f4 f5, rfl, q⟩⟩⟩
end
end PL
set_option Elab.async false
set_option linter.all false
set_option maxRecDepth 100000
set_option maxHeartbeats 2000000
/-! PL26: sorted({e for ..}), len({e for ..}). -/
namespace PL
open PySem PySem.Spec PyProof.Rows L2
section
variable {P : Program} {w : World} {T : Type} (S : SLk P w T)
/-- a set that is being filled: L is in it -/
def setU (D : Addr) (L : List (Value × T)) : HO := .ext fun h => ∃ h0, S.St h0 D L ∧ ∀ o, h0.get? D = some o → h.get? D = some o
theorem St.there {h : Heap} {D : Addr} {L : List (Value × T)} (R : S.St h D L) : ∃ o, h.get? D = some o := by
  obtain ⟨o, _, _, _, ho, _⟩ := S.read R
  exact ⟨o, ho⟩
theorem setU_ok {H : Hp} {h : Heap} {D : Addr} {L : List (Value × T)} (R : S.St h D L) : ObjOk P w H h D (setU S D L) :=
  ⟨⟨h, R, fun _ e => e⟩, St.there S R, fun h1 h2 ⟨h0, r, k⟩ k2 => ⟨h0, r, fun o e => k2 o (k o e)⟩⟩
end
section
variable {Y : Cx} {T : Type} (S : SLk Y.prog Y.w T) (enc : T → D)
/-- the set stands, its members told -/
theorem setU_get {pins : List (Addr × Obj)} {σ : L2.St} {H : Hp} {s : Shared} {D : Addr} {L : List (Value × T)} (hI : ∀ {x : V} {v : Value} {k : T}, Im Y.K H x (enc k) → RelV x v → S.Is s.heap k v) (I : Inv Y pins σ H s) (hD : H D = some (setU S D L)) (vs : ∀ p ∈ L, ∃ x, RelV x p.1 ∧ Im Y.K H x (enc p.2)) : S.St s.heap D L := by
  obtain ⟨⟨h0, R, k⟩, _, _⟩ := (show ObjOk Y.prog Y.w H s.heap D (setU S D L) from I.hok D _ hD)
  refine S.keepS R k fun p hp => ?_
  obtain ⟨x, r, i⟩ := vs p hp
  exact hI i r
theorem set_add {pins : List (Addr × Obj)} {σ : L2.St} {H : Hp} {s : Shared} {E : Value → Shared → Prop} {D : Addr} {L : List (Value × T)} {y : V} {v : Value} {k : T} {Q : Value → Shared → Prop} (hI : ∀ {x : V} {v : Value} {k : T}, Im Y.K H x (enc k) → RelV x v → S.Is s.heap k v) (hu : Y.A.units + 65 < cLine) (I : Inv Y pins σ H s) (hD : H D = some (setU S D L)) (vs : ∀ p ∈ L, ∃ x, RelV x p.1 ∧ Im Y.K H x (enc p.2))
    (iy : Im Y.K H y (enc k)) (r : RelV y v) (room : L.length + 1 < 64)
    (h : ∀ L' s', (k ∈ L.map (·.2) → L' = L) → (k ∉ L.map (·.2) → L'.Perm ((v, k) :: L)) → Inv Y pins σ (upd H D (setU S D L')) s' → Q .none s') : wpAny (model Y.prog Y.w) Y.A (call (.builtin "set.add") [.ref D, v]) Q E s := by
  have R := setU_get S enc hI I hD vs
  obtain ⟨o, es, ep, t, ho, hex, hd, _⟩ := S.read R
  have ty : s.TypeIs (.ref D) "set" := ⟨o, ho, hex.1⟩
  refine wpAny_call_entry PySem.F.slot_set_add ty PySem.F.entry_set_add ?_ (PySem.F.args_set_add_2 _ _)
  unfold Builtin.«set.add» Builtin.Frozenset.oneOther
  simp only [List.isEmpty_nil, bind_assoc]
  unfold Builtin.Frozenset.addrOf
  refine wpAny_bind (wpAny_pure ?_)
  try dsimp only
  refine wpAny_bind (wpAny_pure ?_)
  try dsimp only
  refine wpAny_bind ?_
  refine S.add (by show Y.A.units + 1 < cLine; omega) R (hI iy r) room fun b h' L' tk sb lt R' c1 c2 => ?_
  refine wpAny_pure ⟨_, rfl, h L' _ c1 c2 ?_⟩
  exact I.write (e := D) (by rw [hD]; trivial) (.inl rfl) (fun c q hc z => (sb.2 c hc).trans z) (St.there S R') (setU_ok S R')
end
def actS (P : Program) (w : World) (A : Around) (elt : Expr) : Addr → PySem.Env → (Value → Shared → Prop) → (Shared → Prop) → Shared → Prop := fun D env NE G s =>
  wpAny (model P w) A (eval elt env) (fun x s1 => wpAny (model P w) A (call (.builtin "set.add") [.ref D, x]) (fun _ s2 => G s2) NE s1) NE s
section
variable {X : Cx} {T : Type} (M : Mem X T) {H0 : Hp} {W : XK} {κ κ' : Kds} {tg iter elt c : Expr} {ifs : List Expr} {vs ws : List Nat} {b : D → Env → R Env} {fi : Env → R (List D)} {fc : Env → R Bool} {fe : Env → R D} {p q pos : Pos} {scope : Scope} {own : List (Str × Nat)}
/-- what a kept turn asks -/
def taS (te : TE) : Addr → L2.St → Hp → (Hp → Prop) → Prop := fun D σ H Nx => te σ H fun y H1 => ∃ (L : List (Value × T)) (k : T), H1 D = some (setU M.S D L) ∧ (∀ p ∈ L, ∃ x, RelV x p.1 ∧ Im X.K H1 x (M.enc p.2)) ∧ Im X.K H1 y (M.enc k) ∧ L.length + 1 < 64 ∧
  ∀ v L', RelV y v → (k ∈ L.map (·.2) → L' = L) → (k ∉ L.map (·.2) → L'.Perm ((v, k) :: L)) → Nx (upd H1 D (setU M.S D L'))
/-- the set that comes -/
structure SetIs (H : Hp) (D : Addr) (L : List (Value × T)) (ks : List T) : Prop where
  at' : H D = some (setU M.S D L)
  vs : ∀ p ∈ L, ∃ x, RelV x p.1 ∧ Im X.K H x (M.enc p.2)
  mem : ∀ k, k ∈ L.map (·.2) ↔ k ∈ ks
  len : L.length ≤ ks.length
  nd : (L.map (·.2)).Nodup
def fewK (ks : List T) : Prop := ks.length < 64 ∨ (uniq (ks.map M.enc)).length < 63
theorem SetIs.few {H : Hp} {D : Addr} {L : List (Value × T)} {ks : List T} (si : SetIs M H D L ks) (few : fewK M ks) : L.length < 64 := by
  rcases few with few | few
  · exact Nat.lt_of_le_of_lt si.len few
  · have := few_uniq M (ks := ks) si.nd fun p hp => (si.mem p.2).mp (List.mem_map.mpr ⟨p, hp, rfl⟩)
    omega
theorem SetIs.same {H : Hp} {D : Addr} {L : List (Value × T)} {ks : List T} (si : SetIs M H D L ks) : ∀ d, d ∈ L.map (fun p => M.enc p.2) ↔ d ∈ ks.map M.enc := fun d => by
  constructor
  · intro h
    obtain ⟨p, hp, e⟩ := List.mem_map.mp h
    exact List.mem_map.mpr ⟨p.2, (si.mem p.2).mp (List.mem_map.mpr ⟨p, hp, rfl⟩), e⟩
  · intro h
    obtain ⟨k, hk, e⟩ := List.mem_map.mp h
    obtain ⟨p, hp, rfl⟩ := List.mem_map.mp ((si.mem k).mpr hk)
    exact List.mem_map.mpr ⟨p, hp, e⟩
theorem tSet_of {σ : L2.St} {H : Hp} {Q : VK} {τ : Env} {ks : List T} (r : Rep X.K H0 H κ σ τ) (hsub : ∀ j ∈ ws, j ∈ vs) (few : fewK M ks)
    (h : PostA X.mg W H (fi τ) fun ds => lcGo b fc fe (wipeE τ vs) ds = .ok (ks.map M.enc)) (hq : (∃ ds, fi τ = .ok ds) → ∀ D L H', Same H H' → SetIs M H' D L ks → Q (.ref D) H') :
    tGc (tI X.K X.mg H0 W κ fi) (gD X.K H0 (wipeK κ vs) κ' ws b) (tT X.K X.mg H0 E0 κ' fc) (taS M (tD X.K X.mg H0 E0 κ' rI fe)) (fun D => setU M.S D []) vs σ H Q := by
  refine ⟨τ, r, PostA.imp' h fun ds e0 eres J H1 s1 ok D nD => ?_⟩
  have sD : ∀ {H o}, Same H1 H → Same H1 (upd H D o) := fun s => same_put s nD
  refine ⟨fun i m H => i + m = ds.length ∧ ∃ ka kb L, SetIs M H D L ka ∧ Same H1 H ∧ lcGo b fc fe (wipeE τ vs) (ds.drop i) = .ok (kb.map M.enc) ∧ ks = ka ++ kb,
    ⟨ds.length, by omega, [], ks, [], ⟨upd_same, fun _ h => absurd h List.not_mem_nil, fun k => Iff.rfl, Nat.le_refl _, List.nodup_nil⟩, sD (Same.refl _), by simpa using eres, rfl⟩, fun i m H2 hW => ?_⟩
  obtain ⟨em, ka, kb, L, S, s2, ez, er⟩ := hW
  by_cases hi : i < ds.length
  · refine .inr ⟨ok.go H2 i (Same.pers s2) hi, fun H' => i + 1 + (m - 1) = ds.length ∧ ∃ ka kb L, SetIs M H' D L ka ∧ Same H1 H' ∧ lcGo b fc fe (wipeE τ vs) (ds.drop (i + 1)) = .ok (kb.map M.enc) ∧ ks = ka ++ kb,
      fun H' hN => ⟨m - 1, by omega, hN⟩, fun x H3 hy => ?_⟩
    obtain ⟨s3, ix⟩ := ok.yld H2 i x H3 ds[i] (Same.pers s2) hy (List.getElem?_eq_getElem hi)
    rw [List.drop_eq_getElem_cons hi] at ez
    obtain ⟨τ1, eb, ez⟩ := bind_ok' (show (b ds[i] (wipeE τ vs)).bind _ = .ok (kb.map M.enc) from ez)
    obtain ⟨k, ec, ez⟩ := bind_ok' ez
    refine ⟨wipeE τ vs, ds[i], ((r.to s1).wipe vs).to (s2.trans s3), ix, ?_⟩
    rw [eb]
    intro σ2 r2 k2
    refine ⟨wipe_eq (by rw [k2.1, wipe_length]) k2.2 hsub, τ1, r2, ?_⟩
    rw [ec]
    intro H4 s4
    have s34 := s3.trans s4
    have S4 : SetIs M H4 D L ka := ⟨s34 _ _ S.at', fun p hp => let ⟨x, r, i⟩ := S.vs p hp; ⟨x, r, i.mono (Same.pers s34)⟩, S.mem, S.len, S.nd⟩
    cases k with
    | false =>
      rw [if_neg (by decide)] at ez ⊢
      exact ⟨by omega, ka, kb, L, S4, s2.trans s34, ez, er⟩
    | true =>
      rw [if_pos rfl] at ez ⊢
      obtain ⟨y, ey, ez⟩ := bind_ok' ez
      obtain ⟨zs, ezs, ez⟩ := bind_ok' ez
      cases kb with
      | nil => cases ez
      | cons k1 kb1 =>
        have ez : y :: zs = M.enc k1 :: kb1.map M.enc := by injection ez
        obtain ⟨rfl, rfl⟩ := List.cons.inj ez
        refine ⟨τ1, r2.to s4, ?_⟩
        rw [ey]
        intro v H5 s5 iv
        have lk : ks.length = ka.length + (kb1.length + 1) := by rw [er]; simp
        have vs5 : ∀ p ∈ L, ∃ x, RelV x p.1 ∧ Im X.K H5 x (M.enc p.2) := fun p hp => let ⟨x, r, i⟩ := S4.vs p hp; ⟨x, r, i.mono (Same.pers s5)⟩
        have hD5 := s5 _ _ S4.at'
        have l4 := S4.len
        have room : L.length + 1 < 64 := by
          rcases few with few | few
          · omega
          · have := few_uniq M (ks := ks) S4.nd fun p hp => by
              rw [er]
              exact List.mem_append_left _ ((S4.mem p.2).mp (List.mem_map.mpr ⟨p, hp, rfl⟩))
            omega
        refine ⟨L, k1, hD5, vs5, iv, room, fun u L' ru c1 c2 => ⟨by omega, ka ++ [k1], kb1, L', ?_, sD ((s2.trans s34).trans s5), ezs, by rw [er]; simp⟩⟩
        have pu : Pers H5 (upd H5 D (setU M.S D L')) := pers_upd (by rw [hD5]; trivial)
        classical
        by_cases hm : k1 ∈ L.map (·.2)
        · rw [c1 hm] at pu ⊢
          refine ⟨upd_same, fun p hp => let ⟨x, r, i⟩ := vs5 p hp; ⟨x, r, i.mono pu⟩, fun k => ?_, by simp; omega, S4.nd⟩
          rw [S4.mem]
          simp only [List.mem_append, List.mem_singleton]
          exact ⟨.inl, fun h => h.elim id fun h => h ▸ (S4.mem k1).mp hm⟩
        · have pm := c2 hm
          refine ⟨upd_same, fun p hp => ?_, fun k => ?_, by rw [pm.length_eq]; simp; omega, (pm.map (·.2)).nodup_iff.mpr (List.nodup_cons.mpr ⟨hm, S4.nd⟩)⟩
          · rcases List.mem_cons.mp (pm.mem_iff.mp hp) with e | hp
            · subst e; exact ⟨v, ru, Im.mono pu iv⟩
            · obtain ⟨x, r, i⟩ := vs5 p hp; exact ⟨x, r, i.mono pu⟩
          · rw [(pm.map (·.2)).mem_iff, List.map_cons, List.mem_cons, S4.mem, List.mem_append, List.mem_singleton, or_comm]
  · refine .inl ⟨ok.stop H2 i (Same.pers s2) (by omega), ?_⟩
    rw [List.drop_eq_nil_of_le (by omega)] at ez
    have : kb = [] := by
      cases kb with
      | nil => rfl
      | cons _ _ => cases ez
    subst this
    rw [List.append_nil] at er
    subst er
    exact hq ⟨_, e0⟩ D L H2 (s1.trans s2) S
theorem pe_setc (hu : X.A.units + 65 < cLine) (hc : X.calm = true) (hN : X.N.Nodup) (hi : DI X H0 W κ tg iter fi) (ok : BlkOk X.N X.env.scope scope own) (hvs : own.map (·.2) = vs)
    (hg : ∀ (s : Shared) (H : Hp) (C : Addr) (cl : List (Str × Addr)) (fp : List Addr), DP (X.blk s H scope (compEnvC scope cl C X.env) fp) H0 (wipeK κ vs) tg ws b κ')
    (ht : ∀ (s : Shared) (H : Hp) (C : Addr) (cl : List (Str × Addr)) (fp : List Addr), DTs (X.blk s H scope (compEnvC scope cl C X.env) fp) H0 E0 κ' ifs fc)
    (he : ∀ (s : Shared) (H : Hp) (C : Addr) (cl : List (Str × Addr)) (fp : List Addr), DE (X.blk s H scope (compEnvC scope cl C X.env) fp) H0 E0 κ' rI elt fe)
    (hsub : ∀ j ∈ ws, j ∈ vs) (hs : ∀ x, foldedSetIterable iter X.env x = pure x) {pins : List (Addr × Obj)} {s : Shared} {σ : L2.St} {H : Hp} {τ : Env} {ks : List T} (I : Inv X pins σ H s) (r : Rep X.K H0 H κ σ τ) (few : fewK M ks)
    (hI : ∀ (s : Shared) (H : Hp) (C : Addr) (cl : List (Str × Addr)) (fp : List Addr) {pins : List (Addr × Obj)} {s1 : Shared} {σ1 : L2.St} {H1 : Hp} {x : V} {v : Value} {k : T}, Inv (X.blk s H scope (compEnvC scope cl C X.env) fp) pins σ1 H1 s1 → Im X.K H1 x (M.enc k) → RelV x v → M.S.Is s1.heap k v)
    (h : PostA X.mg W H (fi τ) fun ds => lcGo b fc fe (wipeE τ vs) ds = .ok (ks.map M.enc)) {Q : VK} (hq : (∃ ds, fi τ = .ok ds) → ∀ D L H', Same H H' → SetIs M H' D L ks → Q (.ref D) H') :
    wpAny (model X.prog X.w) X.A (eval (.SetComp elt [⟨tg, iter, ifs, 0⟩] scope pos) X.env) (EP X pins σ Q) X.xe s := by
  rw [PpSet.eval_SetComp]
  refine gc_core (Q := Q) (g := gD X.K H0 (wipeK κ vs) κ' ws b) (tt := tT X.K X.mg H0 E0 κ' fc) (ta := taS M (tD X.K X.mg H0 E0 κ' rI fe)) (U0 := fun D => setU M.S D []) (O := freshSet X.w) (act := actS X.prog X.w X.A elt) rfl
    (fun R s it D env I turn n h => PpSet.compLoopS_any I turn n h) (fun R s it acc env h0 h => PpSet.codeAny_compStart_set h0 h) (fun s Qv Ev h => PpSet.newSet_ok h) (fun H h hb => setU_ok M.S (M.S.fresh (Heap.get?_push_size _ rfl))) hc hN I hi.pi ok
    (fun s H C cl fp => (hg s H C cl fp).pg) (fun s H C cl fp => (ht s H C cl fp).pt) (fun s H C cl fp D pins s1 σ1 H1 Nx NE G I1 a hG => ?_) hs (by rw [hvs]; exact tSet_of M r hsub few h hq) fun D C s' m H' I' q hn f => ⟨m, hn, fun h'' sb => ?_⟩
  · refine thnF ((he s H C cl fp).pe.run pins s1 σ1 H1 _ I1 a) fun xv s2 ⟨y, H2, I2, r2, L, k, hD, vsL, iy, room, nx⟩ => ?_
    exact set_add (Y := X.blk s H scope (compEnvC scope cl C X.env) fp) M.S M.enc (fun i r => hI s H C cl fp I2 i r) hu I2 hD vsL iy r2 room fun L' s3 c1 c2 I3 => hG _ _ I3 (nx xv L' r2 c1 c2)
  · obtain ⟨f0, f1, f2, f3, f4, f5⟩ := f
    exact ⟨.ref D, H', I'.turned (t' := s'.toks) (fun b o hb z => (sb.2 b hb).trans z) f0 f1 f3 f4 f5, rfl, q⟩
theorem sc_pre {α : Type} {mg : Str → Option Value} {H : Hp} {τ : Env} {g : D → R α} {A : α → Prop} (z : PostA mg W H ((fLc vs fi b fc fe τ).bind g) A) : ∃ ys, PostA mg W H (fi τ) (fun ds => lcGo b fc fe (wipeE τ vs) ds = .ok ys) ∧ ((∃ ds, fi τ = .ok ds) → PostA mg W H (g (.list ys)) A) := by
  unfold fLc at z
  cases e : fi τ with
  | ok ds =>
    rw [e] at z
    obtain ⟨ys, e2, z2⟩ := lc_ok (PostA.bind (PostA.bind (show PostA mg W H (((lcGo b fc fe (wipeE τ vs) ds).calm.bind fun ys => R.ok (PyData.list ys)).bind g) A from z)))
    exact ⟨ys, e2, fun _ => z2⟩
  | err n => rw [e] at z; exact ⟨[], z, fun ⟨ds, h⟩ => by cases h⟩
  | bad => rw [e] at z; exact z.elim
/-- ahead of a call of a built-in: the set, with what is then known -/
theorem setc_any (hu : X.A.units + 65 < cLine) (hc : X.calm = true) (hN : X.N.Nodup) (hi : DI X H0 W κ tg iter fi) (ok : BlkOk X.N X.env.scope scope own) (hvs : own.map (·.2) = vs)
    (hg : ∀ (s : Shared) (H : Hp) (C : Addr) (cl : List (Str × Addr)) (fp : List Addr), DP (X.blk s H scope (compEnvC scope cl C X.env) fp) H0 (wipeK κ vs) tg ws b κ')
    (ht : ∀ (s : Shared) (H : Hp) (C : Addr) (cl : List (Str × Addr)) (fp : List Addr), DTs (X.blk s H scope (compEnvC scope cl C X.env) fp) H0 E0 κ' ifs fc)
    (he : ∀ (s : Shared) (H : Hp) (C : Addr) (cl : List (Str × Addr)) (fp : List Addr), DE (X.blk s H scope (compEnvC scope cl C X.env) fp) H0 E0 κ' rI elt fe)
    (hsub : ∀ j ∈ ws, j ∈ vs) (hs : ∀ x, foldedSetIterable iter X.env x = pure x) {pins : List (Addr × Obj)} {s : Shared} {σ : L2.St} {H : Hp} {τ : Env} {ys : List PyData} (I : Inv X pins σ H s) (r : Rep X.K H0 H κ σ τ)
    (h : PostA X.mg W H (fi τ) fun ds => lcGo b fc fe (wipeE τ vs) ds = .ok ys) (hso : (∃ ds, fi τ = .ok ds) → setOk ys) {Qv : Value → Shared → Prop}
    (k1 : ∀ (ks : List Str) D L H1 s1, ys = ks.map .str → fewK (memTx X) ks → (∃ ds, fi τ = .ok ds) → Inv X pins σ H1 s1 → Same H H1 → SetIs (memTx X) H1 D L ks → Qv (.ref D) s1)
    (k2 : ∀ (ks : List (List Key)) D L H1 s1, ys = ks.map (fun k => .tuple (k.map keyD)) → fewK (memTu X) ks → (∃ ds, fi τ = .ok ds) → Inv X pins σ H1 s1 → Same H H1 → SetIs (memTu X) H1 D L ks → Qv (.ref D) s1) :
    wpAny (model X.prog X.w) X.A (eval (.SetComp elt [⟨tg, iter, ifs, 0⟩] scope q) X.env) Qv X.xe s := by
  have tx : ∀ ks : List Str, fewK (memTx X) ks → PostA X.mg W H (fi τ) (fun ds => lcGo b fc fe (wipeE τ vs) ds = .ok (ks.map .str)) → ((∃ ds, fi τ = .ok ds) → ys = ks.map .str) → wpAny (model X.prog X.w) X.A (eval (.SetComp elt [⟨tg, iter, ifs, 0⟩] scope q) X.env) Qv X.xe s := fun ks few h' ey => by
    refine thn (pe_setc (memTx X) hu hc hN hi ok hvs hg ht he hsub hs I r few (fun s H C cl fp {pins s1 σ1 H1 x v k} I i r => (memTx (X.blk s H scope (compEnvC scope cl C X.env) fp)).is I i r) h'
      (Q := fun v H1 => (∃ ds, fi τ = .ok ds) ∧ Same H H1 ∧ ∃ D L, v = .ref D ∧ SetIs (memTx X) H1 D L ks) fun ex D L H' sm si => ⟨ex, sm, D, L, rfl, si⟩) fun v s1 ⟨x, H1, I1, r1, ex, sm, D, L, ev, si⟩ => ?_
    subst ev
    cases r1
    exact k1 ks D L H1 s1 (ey ex) few ex I1 sm si
  cases e : fi τ with
  | bad => rw [e] at h; exact h.elim
  | err n => exact tx [] (.inl (by decide)) (by rw [e] at h ⊢; exact h) fun ⟨ds, z⟩ => by rw [e] at z; cases z
  | ok ds0 =>
    obtain ⟨few, ⟨ks, e'⟩ | ⟨ks, e'⟩⟩ := hso ⟨_, e⟩
    · subst e'
      exact tx ks (by rw [List.length_map] at few; exact few) h fun _ => rfl
    · subst e'
      have few' : fewK (memTu X) ks := by rw [List.length_map] at few; exact few
      refine thn (pe_setc (memTu X) hu hc hN hi ok hvs hg ht he hsub hs I r few' (fun s H C cl fp {pins s1 σ1 H1 x v k} I i r => (memTu (X.blk s H scope (compEnvC scope cl C X.env) fp)).is I i r) h
        (Q := fun v H1 => (∃ ds, fi τ = .ok ds) ∧ Same H H1 ∧ ∃ D L, v = .ref D ∧ SetIs (memTu X) H1 D L ks) fun ex D L H' sm si => ⟨ex, sm, D, L, rfl, si⟩) fun v s1 ⟨x, H1, I1, r1, ex, sm, D, L, ev, si⟩ => ?_
      subst ev
      cases r1
      exact k2 ks D L H1 s1 rfl few' ex I1 sm si
theorem de_sortedSetC (hu : X.A.units + 65 < cLine) (hc : X.calm = true) (hg0 : Gl X "sorted") (hm0 : X.mg "sorted" = none) (hN : X.N.Nodup) (hi : DI X H0 W κ tg iter fi) (ok : BlkOk X.N X.env.scope scope own) (hvs : own.map (·.2) = vs)
    (hg : ∀ (s : Shared) (H : Hp) (C : Addr) (cl : List (Str × Addr)) (fp : List Addr), DP (X.blk s H scope (compEnvC scope cl C X.env) fp) H0 (wipeK κ vs) tg ws b κ')
    (ht : ∀ (s : Shared) (H : Hp) (C : Addr) (cl : List (Str × Addr)) (fp : List Addr), DTs (X.blk s H scope (compEnvC scope cl C X.env) fp) H0 E0 κ' ifs fc)
    (he : ∀ (s : Shared) (H : Hp) (C : Addr) (cl : List (Str × Addr)) (fp : List Addr), DE (X.blk s H scope (compEnvC scope cl C X.env) fp) H0 E0 κ' rI elt fe)
    (hsub : ∀ j ∈ ws, j ∈ vs := by decide) (hs : ∀ x, foldedSetIterable iter X.env x = pure x := by intro _; rfl)
    (na : starEach [.SetComp elt [⟨tg, iter, ifs, 0⟩] scope q] X.env = (false, eval (.SetComp elt [⟨tg, iter, ifs, 0⟩] scope q) X.env) :: starEach [] X.env := by rfl) :
    DE X H0 W κ rN (.Call (.Name "sorted" p) [.SetComp elt [⟨tg, iter, ifs, 0⟩] scope q] [] pos) (f1 dSortedSet (fLc vs fi b fc fe)) :=
  ⟨⟨fun pins s σ H Q I ⟨τ, r, z⟩ => by
    obtain ⟨ys, z1, z2⟩ := sc_pre (g := dSortedSet) z
    have tell : (∃ ds, fi τ = .ok ds) → setOk ys ∧ sortOk ys ∧ Post X.K X.mg W rN H Q (.ok (.list (srt (uniq ys)))) := fun ex => by
      obtain ⟨ds, hd, ok1, ok2, pd⟩ := post_sset (z2 ex)
      have ed : ds = ys := by rcases hd with h | h <;> cases h; rfl
      subst ed
      exact ⟨ok1, ok2, pd⟩
    refine Call_ (ld_blt I hg0 hm0 (Q := fun v s1 => _) PyProof.Rows.boot_sorted ?_)
    refine PyProof.Rows.callWith_builtin1 (PyProof.Rows.args_cons (setc_any hu hc hN hi ok hvs hg ht he hsub hs I r z1 (fun ex => (tell ex).1)
      (fun ks D L H1 s1 ey few ex I1 sm si => ?_) fun ks D L H1 s1 ey few ex I1 sm si => ?_) na) na rfl
    · obtain ⟨ok1, ok2, pd⟩ := tell ex
      subst ey
      exact PyProof.Rows.args_nil (sorted_new (memTx X) hc hu I1 (setU_get (memTx X).S (memTx X).enc (fun i r => (memTx X).is I1 i r) I1 si.at' si.vs) (si.few _ few) si.same si.vs ok2 (Post.to good_N pd sm))
    · obtain ⟨ok1, ok2, pd⟩ := tell ex
      subst ey
      exact PyProof.Rows.args_nil (sorted_new (memTu X) hc hu I1 (setU_get (memTu X).S (memTu X).enc (fun i r => (memTu X).is I1 i r) I1 si.at' si.vs) (si.few _ few) si.same si.vs ok2 (Post.to good_N pd sm))⟩⟩
theorem de_lenSetC (hu : X.A.units + 65 < cLine) (hc : X.calm = true) (hg0 : Gl X "len") (hm0 : X.mg "len" = none) (hN : X.N.Nodup) (hi : DI X H0 W κ tg iter fi) (ok : BlkOk X.N X.env.scope scope own) (hvs : own.map (·.2) = vs)
    (hg : ∀ (s : Shared) (H : Hp) (C : Addr) (cl : List (Str × Addr)) (fp : List Addr), DP (X.blk s H scope (compEnvC scope cl C X.env) fp) H0 (wipeK κ vs) tg ws b κ')
    (ht : ∀ (s : Shared) (H : Hp) (C : Addr) (cl : List (Str × Addr)) (fp : List Addr), DTs (X.blk s H scope (compEnvC scope cl C X.env) fp) H0 E0 κ' ifs fc)
    (he : ∀ (s : Shared) (H : Hp) (C : Addr) (cl : List (Str × Addr)) (fp : List Addr), DE (X.blk s H scope (compEnvC scope cl C X.env) fp) H0 E0 κ' rI elt fe)
    (hsub : ∀ j ∈ ws, j ∈ vs := by decide) (hs : ∀ x, foldedSetIterable iter X.env x = pure x := by intro _; rfl)
    (na : starEach [.SetComp elt [⟨tg, iter, ifs, 0⟩] scope q] X.env = (false, eval (.SetComp elt [⟨tg, iter, ifs, 0⟩] scope q) X.env) :: starEach [] X.env := by rfl) :
    DE X H0 W κ rI (.Call (.Name "len" p) [.SetComp elt [⟨tg, iter, ifs, 0⟩] scope q] [] pos) (f1 dLenSet (fLc vs fi b fc fe)) :=
  ⟨⟨fun pins s σ H Q I ⟨τ, r, z⟩ => by
    obtain ⟨ys, z1, z2⟩ := sc_pre (g := dLenSet) z
    have tell : (∃ ds, fi τ = .ok ds) → setOk ys ∧ Post X.K X.mg W rI H Q (.ok (.int (uniq ys).length)) := fun ex => by
      obtain ⟨ds, hd, ok1, pd⟩ := post_lset (z2 ex)
      have ed : ds = ys := by rcases hd with h | h <;> cases h; rfl
      subst ed
      exact ⟨ok1, pd⟩
    refine Call_ (ld_blt I hg0 hm0 (Q := fun v s1 => _) PySem.boot_len ?_)
    refine PyProof.Rows.callWith_builtin1 (PyProof.Rows.args_cons (setc_any hu hc hN hi ok hvs hg ht he hsub hs I r z1 (fun ex => (tell ex).1)
      (fun ks D L H1 s1 ey few ex I1 sm si => ?_) fun ks D L H1 s1 ey few ex I1 sm si => ?_) na) na rfl
    · obtain ⟨ok1, pd⟩ := tell ex
      subst ey
      exact PyProof.Rows.args_nil (len_new (memTx X) I1 (setU_get (memTx X).S (memTx X).enc (fun i r => (memTx X).is I1 i r) I1 si.at' si.vs) (si.few _ few) si.same (Post.to good_I pd sm))
    · obtain ⟨ok1, pd⟩ := tell ex
      subst ey
      exact PyProof.Rows.args_nil (len_new (memTu X) I1 (setU_get (memTu X).S (memTu X).enc (fun i r => (memTu X).is I1 i r) I1 si.at' si.vs) (si.few _ few) si.same (Post.to good_I pd sm))⟩⟩
end
end PL
set_option Elab.async false
set_option linter.all false
set_option maxRecDepth 100000
set_option maxHeartbeats 1000000
/-! PL27: enumerate over lists and tuples. -/
namespace PL
open PySem PySem.Spec PyProof.Rows L2
open Sem (wp)
open AutoSeq1 (wpAny_loadPart')
/-- the two objects of enumerate(t), t a tuple -/
abbrev tIt (l : Addr) : Obj := { cls := .type "tuple_iterator", data := .fields #[.ref l, .int 0 0] }
abbrev tEn (a : Addr) : Obj := { cls := .type "enumerate", data := .fields #[.none, .bool false, .ref a, rawInt 0, .none, .none] }
theorem meets_enumT (l : Addr) (items : Array Value) (n : Nat) (dct : Option Addr) (sl : Array (Option Value)) :
    Meets (Builtin.«enumerate.__new__» ⟨[.type "enumerate", .ref l], []⟩) (fun _ R s => s.heap.get? l = some { cls := .type "tuple", dict := dct, data := .seq items n, slots := sl } ∧
      R (.ok (.ret (.ref (s.heap.push (tIt l)).objs.size))) { s with heap := (s.heap.push (tIt l)).push (tEn s.heap.objs.size) }) :=
  .of_wp fun prog w A R s h => by
    obtain ⟨hp, g, d, tk, os⟩ := s
    obtain ⟨hl, hR⟩ := h
    have hsub := sub_enumerate
    have hT : Heap.IsTuple (Shared.heap ⟨hp, g, d, tk, os⟩) l items := ⟨_, hl, rfl, n, rfl⟩
    wp_walk using wpAny_loadPart' hl
    refine wpAny_stack_any fun st => wpAny_pure ?_
    split
    · rename_i c _ _ _ _ _
      cases (c == Value.type "enumerate") <;>
      · wp_walk using wpAny_loadPart' hl, wpAny_pyIter_tuple hT
        exact ⟨_, rfl, hR⟩
    · wp_walk using wpAny_loadPart' hl, wpAny_pyIter_tuple hT
      exact ⟨_, rfl, hR⟩
theorem call_enumT {prog : Program} {w : World} {A : Around} {E : Value → Shared → Prop} {s : Shared} {l : Addr} {items : Array Value} {Q : Value → Shared → Prop} (hT : s.heap.IsTuple l items)
    (h : ∀ h', IsEnum h' (s.heap.objs.size + 1) s.heap.objs.size 0 .none → h'.IsTupleIter s.heap.objs.size l 0 → h'.objs.size = s.heap.objs.size + 2 → (∀ b o, s.heap.get? b = some o → h'.get? b = some o) → Q (.ref (s.heap.objs.size + 1)) { s with heap := h' }) :
    wpAny (model prog w) A (call (.type "enumerate") [.ref l]) Q E s := by
  obtain ⟨o, ho, hc, n, hd⟩ := hT
  obtain ⟨c, dct, dt, sl⟩ := o
  cases (show c = .type "tuple" from hc)
  cases (show dt = .seq items n from hd)
  refine callType_new PySem.F.called_enumerate (by decide) (PySem.F.typeCall_enumerate_1 _) (PySem.F.newCall_enumerate_1 _) (fun obj => PySem.F.args_object_init_2 obj _) PySem.F.entry_enumerate_new (meets_enumT l items n dct sl) ⟨ho, ?_⟩
  have z1 : (s.heap.push (tIt l)).objs.size = s.heap.objs.size + 1 := Heap.size_push ..
  have e2 : ((s.heap.push (tIt l)).push (tEn s.heap.objs.size)).get? (s.heap.objs.size + 1) = some (tEn s.heap.objs.size) := by rw [← z1]; exact Heap.get?_push_size _ rfl
  show _ ∧ _
  rw [z1]
  exact ⟨⟨_, e2, rfl⟩, h _ e2 ⟨_, Heap.get?_push_of_some _ (Heap.get?_push_size _ rfl), rfl, rfl⟩ (by rw [Heap.size_push, z1]) fun b o x => Heap.get?_push_of_some _ (Heap.get?_push_of_some _ x)⟩
/-- at its end the tuple's walk has no more -/
theorem drawsEnd {prog : Program} {w : World} {A : Around} (hh : A.handled = none) (it t : Addr) (hne : t ≠ it) (items : Array Value) (n : Nat) (hn : items.size ≤ n) :
    Draws prog w A it [it, t] n (fun _ _ => True) (fun i h => i = n ∧ h.IsTupleIter it t i ∧ h.IsTuple t items) where
  live := fun _ _ st => by obtain ⟨_, ⟨o, ho, _⟩, _⟩ := st; exact ⟨o, ho⟩
  frame := fun _ _ _ st hk => ⟨st.1, st.2.1.at fun o e => hk it (by simp) o e, st.2.2.at fun o e => hk t (by simp) o e⟩
  item := fun i s Q E hi st hQ => absurd st.1 (Nat.ne_of_lt hi)
  done := fun s Q E st hE => wpAny_nextOf_tuple_end hh st.2.1 st.2.2 (Array.getElem?_eq_none hn) hE
/-- the tuple at a, each item in a new pair -/
def IteT (K : PySem.W.Frag) (a : Addr) : It :=
  ⟨fun i H => ∃ (xs : List V) (x : V), SqT K H a xs ∧ xs[i]? = some x, fun i H v H' => ∃ T x, v = .ref T ∧ H T = none ∧ H' = upd H T (.tup [.int (i : Nat), x]) ∧ ∀ xs, SqT K H a xs → xs[i]? = some x, fun i H => ∃ xs : List V, SqT K H a xs ∧ xs.length ≤ i⟩
theorem turn_enumT {P : Program} {w : World} {K : PySem.W.Frag} {elts : List Expr} {kk : Nat} {tpos : Pos} (a e it : Addr) (hai : a ≠ it) :
    Turn P w K (.Tuple elts kk tpos) (IteT K a) [e, it] e (fun i h => (∃ old, IsEnum h e it ((i : Nat) : Int) old) ∧ h.IsTupleIter it a i ∧ e ≠ it) where
  mem := by simp
  obj := fun i h st b hb => by
    obtain ⟨⟨old, he⟩, ⟨o, ho, hc, hd⟩, _⟩ := st
    rcases (show b = e ∨ b = it by simpa using hb) with z | z
    · rw [z]; exact ⟨_, he, fun v q => nomatch q⟩
    · exact ⟨o, by rw [z]; exact ho, fun v q => by rw [hd] at q; cases q⟩
  keep := fun i h h' st k => let ⟨⟨old, he⟩, hi, hne⟩ := st; ⟨⟨old, k e (by simp) _ he⟩, hi.at fun o q => k it (by simp) o q, hne⟩
  item := by
    intro X hP hw hK hc i pins s σ H E I hf st hg
    subst hP hw hK
    obtain ⟨⟨old, he⟩, hit, hne⟩ := st
    obtain ⟨xs, x, hq, hx⟩ := hg
    obtain ⟨its, rv, p, hz⟩ := I.tuple hq
    obtain ⟨u, hu, ru⟩ := rv.get hx
    have lim := (List.getElem?_eq_some_iff.mp hu).1
    have hea : e ≠ a := fun z => by
      subst z
      obtain ⟨o, ho, hc2, _⟩ := p
      have he' : s.heap.get? e = some _ := he
      rw [he'] at ho; cases ho
      exact absurd (show Value.type "enumerate" = Value.type "tuple" from hc2) (by simp)
    have hel : e < s.heap.objs.size := Heap.lt_size he
    have hil : it < s.heap.objs.size := by obtain ⟨_, q, _⟩ := hit; exact Heap.lt_size q
    refine wpAny_pyNext_enum_itemD (Draws.tuple (A := X.A.in1) (I.ok.hd hc) it a hai its.toArray) he ⟨hit, p⟩ (by simpa using lim) hne (by simp [hne, hea]) fun x' h' tk hP ho hst hT hsz hk => ?_
    have hx' : x' = u := by
      have h1 : its[i]? = some x' := by simpa using hP
      rw [hu] at h1; cases h1; rfl
    subst hx'
    refine ⟨_, rfl, wpAny_letOwnedTupleGo_enum (s := { s with heap := h', toks := tk + 1 }) ho fun h'' he' sb => ?_⟩
    have hT2 : h''.get? s.heap.objs.size = some { cls := .type "tuple", data := .seq #[.int i tk, x'] } := (sb.2 _ (Nat.ne_of_gt hel)).trans hT
    have new : ObjOk X.prog X.w (upd H s.heap.objs.size (.tup [.int (i : Nat), x])) h'' s.heap.objs.size (.tup [.int (i : Nat), x]) :=
      ⟨by show 2 ≤ sizeLine; decide, [.int i tk, x'], .cons ⟨_, rfl⟩ (.cons ru .nil), ⟨_, hT2, rfl, _, rfl⟩⟩
    have I1 := I.turnedNew (ch := [e, it]) (t' := tk + 1) (fun b ob hb q => (sb.2 b (fun z => hb (by simp [z]))).trans (hk b ob (fun z => hb (by simp [z])) (fun z => hb (by simp [z])) q)) hf (Nat.le_refl _) new
    have inf : ∀ b ∈ [e, it], b < s.heap.objs.size := fun b hb => by
      rcases (show b = e ∨ b = it by simpa using hb) with z | z
      · rw [z]; exact hel
      · rw [z]; exact hil
    refine ⟨.ref s.heap.objs.size, _, I1, rfl, ⟨_, x, rfl, I.hok.fresh (Nat.le_refl _), rfl, fun ys hy => by rw [I.tuple_inj hy hq]; exact hx⟩, ⟨⟨x', ?_⟩, hst.1.at fun o q => (sb.2 it (Ne.symm hne)).trans q, hne⟩, fun b hb => ?_⟩
    · have e1 : ((i + 1 : Nat) : Int) = (i : Int) + 1 := by omega
      rw [e1]; exact he'
    · rw [upd_ne (Nat.ne_of_lt (inf b hb))]
      exact (hf b hb).1
  done := by
    intro X hP hw hK hc i pins s σ H E I hf st hg
    subst hP hw hK
    obtain ⟨⟨old, he⟩, hit, hne⟩ := st
    obtain ⟨xs, hq, hx⟩ := hg
    obtain ⟨its, rv, p, hz⟩ := I.tuple hq
    obtain ⟨f0, f1, f2, f3, f4, f5⟩ := hf it (by simp)
    have hl := rv.length
    exact wpAny_pyNext_enum_endD (drawsEnd (A := X.A.in1) (I.ok.hd hc) it a hai its.toArray i (by simp; omega)) he ⟨rfl, hit, p⟩ fun h' eb => ⟨rfl, I.turned (t' := s.toks) (fun b o hb q => eb b o hb q) f0 f1 f3 f4 f5⟩
  self := fun A i s Q E st h => let ⟨⟨_, he⟩, _⟩ := st; wpAny_pyIter_enum he h
def iEnumT (K : PySem.W.Frag) (ta : TA) : TI := fun σ H R => ta σ H fun vs H1 => ∃ a xs, vs = [.ref a] ∧ SqT K H1 a xs ∧ R (IteT K a) H1
theorem pi_enumT {X : Cx} {e : Expr} {ta : TA} {p pos tpos : Pos} {elts : List Expr} {kk : Nat} (hg : Gl X "enumerate") (hm : X.mg "enumerate" = none) (ha : PA X [e] ta) (hs : starEach [e] X.env = [(false, eval e X.env)] := by rfl) :
    PI X (.Tuple elts kk tpos) (.Call (.Name "enumerate" p) [e] [] pos) (iEnumT X.K ta) := by
  refine ⟨fun pins s σ H R I h => ?_⟩
  refine Call_ (ld_blt I hg hm PyProof.Rows.boot_enumerate (PyProof.Rows.callWith_type1 (thn (ha.run pos pins s σ H _ I h) fun us s1 ⟨vs, H1, I1, r1, a, xs, ex, hq, q⟩ => ?_) hs rfl))
  subst ex
  obtain ⟨u, rfl, ru⟩ := r1.one
  cases ru
  obtain ⟨its, rv, tp, hz⟩ := I1.tuple hq
  have lt : a < s1.heap.objs.size := by obtain ⟨o, ho, _⟩ := tp; exact Heap.lt_size ho
  refine call_enumT tp fun h' he hit hsz hk => wpAny_pyIter_enum he ?_
  refine ⟨s1.heap.objs.size + 1, [s1.heap.objs.size + 1, s1.heap.objs.size], _, _, H1, rfl, I1.kept (t' := s1.toks) hk, turn_enumT a (s1.heap.objs.size + 1) s1.heap.objs.size (Nat.ne_of_lt lt), ⟨⟨.none, he⟩, hit, Nat.succ_ne_self _⟩, fun b hb => ?_, q⟩
  have hle : s1.heap.objs.size ≤ b := by
    rcases (show b = s1.heap.objs.size + 1 ∨ b = s1.heap.objs.size by simpa using hb) with z | z
    · rw [z]; exact Nat.le_add_right _ _
    · rw [z]; exact Nat.le_refl _
  exact I1.fpOk hle (I1.hok.fresh hle)
theorem itOk_enumT {K : PySem.W.Frag} {H : Hp} {a : Addr} {xs : List V} {ds : List D} (h : SqT K H a xs) (i : ImAll K H xs ds) (z : ds.length ≤ sizeLine) : ItOk K (IteT K a) H (enumD 0 ds) where
  go := fun H2 j p hj => by
    rw [enumD_len] at hj
    have l := i.length
    exact ⟨xs, xs[j], p.sqT h, List.getElem?_eq_getElem (by omega)⟩
  stop := fun H2 j p hj => ⟨xs, p.sqT h, by rw [enumD_len] at hj; rw [i.length]; exact hj⟩
  yld := fun H2 j x H3 d p hy hd => by
    obtain ⟨T, v, rfl, nT, rfl, f1⟩ := hy
    obtain ⟨d1, e1, rfl⟩ := enumD_get hd
    refine ⟨same_upd nT, ?_⟩
    obtain ⟨v1, q1, q2⟩ := (i.mono p).get e1
    have a1 := f1 xs (p.sqT h)
    rw [q1] at a1; cases a1
    rw [Nat.zero_add]
    exact im_tup_new nT (.cons (.int _) (.cons q2 .nil)) two_small
  len := by rw [enumD_len]; exact z
def dEnum : D → R (List D)
  | .list xs => .ok (enumD 0 xs)
  | .tuple xs => .ok (enumD 0 xs)
  | _ => .bad
def iEnum (f : Env → R D) : Env → R (List D) := fun τ => (f τ).bind dEnum
theorem di_enum {X : Cx} {H0 : Hp} {W : XK} {κ : Kds} {a : Expr} {fa : Env → R D} {p pos tpos : Pos} {elts : List Expr} {kk : Nat} (hg : Gl X "enumerate") (hm : X.mg "enumerate" = none) (ha : DE X H0 W κ rP a fa) (hs : starEach [a] X.env = [(false, eval a X.env)] := by rfl) :
    DI X H0 W κ (.Tuple elts kk tpos) (.Call (.Name "enumerate" p) [a] [] pos) (iEnum fa) :=
  ⟨(PI.or (pi_enum hg hm (pa_cons ha.pe pa_nil hs) hs) (pi_enumT hg hm (pa_cons ha.pe pa_nil hs) hs)).cons fun σ H Q ⟨τ, r, q⟩ => by
    have q1 := PostA.bind q
    cases e1 : fa τ with
    | err n => rw [e1] at q1; exact .inl ⟨τ, r, by rw [e1]; exact q1⟩
    | bad => rw [e1] at q1; exact q1.elim
    | ok d =>
      rw [e1] at q1
      cases d with
      | list ds =>
        refine .inl ⟨τ, r, ?_⟩
        rw [e1]
        intro v H1 s1 hv
        rcases hv with hv | hv
        · cases hv with
          | lst h1 z i => exact ⟨_, _, rfl, h1.sq, q1 _ H1 s1 (itOk_enumL h1 i z)⟩
        · cases hv
      | tuple ds =>
        refine .inr ⟨τ, r, ?_⟩
        rw [e1]
        intro v H1 s1 hv
        obtain ⟨l, xs, rfl, h1, i, z⟩ := rD_tup (le_PD.le _ H _ _ _ hv)
        exact ⟨_, _, rfl, h1, q1 _ H1 s1 (itOk_enumT h1 i z)⟩
      | _ => exact q1.elim⟩
end PL
set_option Elab.async false
set_option linter.all false
set_option maxRecDepth 100000
set_option maxHeartbeats 2000000
/-! PL28: a list or a tuple turned round by a slice. -/
namespace PL
open PySem PySem.Spec PyProof.Rows L2
section
variable {prog : Program} {w : World} {A : Around} {E : Value → Shared → Prop} {s : Shared}
theorem rev_adjust (n : Nat) : Builtin.Slice.sliceAdjust none none (-1) (n : Int) = ((n : Int) - 1, -1) := by
  unfold Builtin.Slice.sliceAdjust
  simp
theorem rev_places (n : Nat) : Builtin.Slice.slicePlaces ((n : Int) - 1) (-1) (-1) = n := by
  unfold Builtin.Slice.slicePlaces
  simp
  split <;> omega
theorem rev_pick (xs : Array Value) : ((List.range xs.size).filterMap fun (m : Nat) => xs[((xs.size : Int) - 1 + (m : Int) * (-1)).toNat]?).toArray = xs.toList.reverse.toArray := by
  have h : ∀ n, n ≤ xs.size → ((List.range n).filterMap fun (m : Nat) => xs[((xs.size : Int) - 1 + (m : Int) * (-1)).toNat]?) = xs.toList.reverse.take n := fun n => by
    induction n with
    | zero => intro _; simp
    | succ n ih =>
      intro hn
      rw [List.range_succ, List.filterMap_append, ih (by omega)]
      have e : ((xs.size : Int) - 1 + (n : Int) * (-1)).toNat = xs.size - 1 - n := by omega
      have lt : xs.size - 1 - n < xs.size := by omega
      rw [List.filterMap_cons, e, Array.getElem?_eq_getElem lt, List.filterMap_nil, List.take_add_one]
      have e2 : xs.toList.reverse[n]? = some xs[xs.size - 1 - n] := by
        rw [List.getElem?_reverse (by simpa using Nat.lt_of_lt_of_le (Nat.lt_succ_self n) hn)]
        simp [lt]
      rw [e2]; rfl
  rw [h xs.size (Nat.le_refl _), List.take_of_length_le (by simp)]
theorem sliceApplied_rev {sl : Addr} {vs : Value} {n : Nat} {Q : Int × Int × Nat → Shared → Prop} (hs : s.heap.IsSliceOf sl .none .none vs) (ps : IsPart vs (some (-1))) (h : Q ((n : Int) - 1, -1, n) s) :
    wpAny (model prog w) A (Builtin.Slice.sliceApplied (.ref sl) (pure (n : Int))) Q E s := by
  obtain ⟨o, ho, hc, hd⟩ := id hs
  unfold Builtin.Slice.sliceApplied Builtin.Slice.sliceFields
  refine wpAny_bind (wpAny_bind (wpAny_field ho hd (x := .none) rfl (wpAny_bind (wpAny_field ho hd (x := .none) rfl (wpAny_bind (wpAny_field ho hd (x := vs) rfl (wpAny_pure ?_)))))))
  refine wpAny_bind (HT.slicePart_ ps ?_)
  show wpAny _ _ (if ((-1 : Int) == 0) = true then _ else _) _ _ s
  rw [if_neg (by decide)]
  refine wpAny_bind (HT.slicePart_ .none (wpAny_bind (HT.slicePart_ .none (wpAny_bind (wpAny_pure ?_)))))
  show wpAny _ _ (match Builtin.Slice.sliceAdjust none none (-1) (n : Int) with | (lo, hi) => pure (lo, (-1 : Int), Builtin.Slice.slicePlaces lo hi (-1))) _ _ s
  rw [rev_adjust]
  show wpAny _ _ (pure ((n : Int) - 1, (-1 : Int), Builtin.Slice.slicePlaces ((n : Int) - 1) (-1) (-1))) _ _ s
  rw [rev_places]
  exact wpAny_pure h
theorem getItem_tuple_rev {t sl : Addr} {items : Array Value} {vs : Value} {Q : Value → Shared → Prop} (ht : IsTup s.heap t items) (hs : s.heap.IsSliceOf sl .none .none vs) (ps : IsPart vs (some (-1)))
    (h : Q (.ref s.heap.objs.size) { s with heap := s.heap.push { cls := .type "tuple", data := .seq items.toList.reverse.toArray } }) (hsz : items.size ≤ sizeLine) : wpAny (model prog w) A (getItem (.ref t) (.ref sl)) Q E s := by
  have fits : sizeOk (.seq items.toList.reverse.toArray) := by
    show items.toList.reverse.toArray.size ≤ sizeLine
    simpa using hsz
  obtain ⟨os, hos, hcs, hds⟩ := id hs
  have tyS : s.TypeIs (.ref sl) "slice" := ⟨os, hos, hcs⟩
  unfold getItem
  try with_reducible refine wpAny_holding ?_
  first | refine wpAny_bind (wpAny_pure ?_) | skip
  refine wpAny_bind (wpAny_sequenceKey ht.typeIs (by decide) ?_)
  refine wpAny_bind (wpAny_callSpecial?_slot (name := Str.ofString "__getitem__") ht.typeIs PyProof.Rows.slot_tuple_getitem (wpAny_call_entry PyProof.Rows.slot_tuple_getitem ht.typeIs entry_tuple_getitem ?_ (args_tuple_getitem _ _)))
  show wpAny _ _ (Builtin.Tuple.tupleItemsOf (.ref t) >>= _) _ _ s
  refine wpAny_bind (PyProof.Rows.tupleItemsOf_ ht ?_)
  refine wpAny_bind (wpAny_typeOf tyS ?_)
  rw [if_pos (by decide)]
  refine wpAny_bind (sliceApplied_rev hs ps ?_)
  have hno : ¬ ((((items.size : Int) - 1) == 0 && (-1 : Int) == 1 && items.size == items.size) = true) := by
    rw [show ((-1 : Int) == 1) = false from rfl, Bool.and_false, Bool.false_and]; decide
  show wpAny _ _ (if (((items.size : Int) - 1) == 0 && (-1 : Int) == 1 && items.size == items.size) = true then _ else _) _ _ s
  rw [if_neg hno, rev_pick]
  first
    | exact wpAny_bind (m := Builtin.Tuple.tupleExact _) (wpAny_newObj_type (wpAny_pure ⟨_, rfl, wpAny_pure h⟩) fits)
    | exact wpAny_bind (m := Builtin.Tuple.tupleExact _) (wpAny_newObj_type (wpAny_bind (wpAny_pure (wpAny_pure ⟨_, rfl, wpAny_pure h⟩))) fits)
    | exact wpAny_bind (wpAny_bind (m := Builtin.Tuple.tupleExact _) (wpAny_newObj_type (wpAny_pure (wpAny_pure ⟨_, rfl, wpAny_pure h⟩)) fits))
    | exact wpAny_bind (wpAny_bind (m := Builtin.Tuple.tupleExact _) (wpAny_newObj_type (wpAny_pure ⟨_, rfl, wpAny_pure h⟩) fits))
end
section
variable {X : Cx} {H0 : Hp} {W : XK} {κ : Kds} {e : Expr} {f : Env → R D} {k : Nat} {p1 p2 p3 pos : Pos}
def tRevA (K : PySem.W.Frag) (te : TE) : TE := fun σ H Q => te σ H fun x H1 => ∃ a xs, x = .ref a ∧ ((SqL K H1 a xs ∧ ∀ p, H1 p = none → Q (.ref p) (upd H1 p (.lst xs.reverse))) ∨ (SqT K H1 a xs ∧ ∀ p, H1 p = none → Q (.ref p) (upd H1 p (.tup xs.reverse))))
theorem pe_revA {te : TE} (he : PE X e te) : PE X (.Subscript e (.Slice none none (some (.UnaryOp .USub (.Constant (.int 1) k p1) p2)) p3) pos) (tRevA X.K te) := by
  refine ⟨fun pins s σ H Q I h => ?_⟩
  refine Subscript_ (thn (he.run pins s σ H _ I h) fun v s1 ⟨x, H1, I1, r1, a, xs, ex, q1⟩ => ?_)
  subst ex
  cases r1
  have step : PO X (some (.UnaryOp .USub (.Constant (.int 1) k p1) p2)) (tPart (tUn (rU fun i => .int (-i)) (tC (.int 1)))) := po_some (pe_un un_neg pe_int)
  refine wpAny_Slice (thn (po_none.run pins s1 σ H1 (fun o H2 => o = none ∧ H2 = H1) I1 ⟨rfl, rfl⟩) fun vl s2 ⟨l, H2, I2, pl, el, e2⟩ => ?_)
  subst el e2
  refine thn (po_none.run pins s2 σ H2 (fun o H3 => o = none ∧ H3 = H2) I2 ⟨rfl, rfl⟩) fun vu s3 ⟨u, H3, I3, pu, eu, e3⟩ => ?_
  subst eu e3
  refine thn (step.run pins s3 σ H3 (fun o H4 => o = some (-1) ∧ H4 = H3) I3 ⟨1, rfl, -1, rfl, rfl, rfl⟩) fun vs s4 ⟨o, H4, I4, ps, eo, e4⟩ => ?_
  subst eo e4
  cases pl
  cases pu
  have I5 : Inv X pins σ H4 { s4 with heap := s4.heap.push { cls := .type "slice", data := .fields #[.none, .none, vs] } } := I4.kept (t' := s4.toks) fun b ob z => Heap.get?_push_of_some _ z
  show wpAny (model X.prog X.w) X.A (subscriptTail e (.Slice none none (some (.UnaryOp .USub (.Constant (.int 1) k p1) p2)) p3) (.ref a) (.ref s4.heap.objs.size)) (EP X pins σ Q) X.xe { s4 with heap := s4.heap.push { cls := .type "slice", data := .fields #[.none, .none, vs] } }
  rcases q1 with ⟨hx, q⟩ | ⟨hx, q⟩
  · obtain ⟨its, r, ht, hz⟩ := I5.list hx
    have hl := r.length
    refine tail_any (ops := [.ref a, .ref s4.heap.objs.size]) ht.isList.typeIs (PySem.slot_list_getitem.lookup) ?_ (by with_unfolding_all rfl)
    refine wpAny_getItem_list_slice ht.isList (Heap.IsSliceOf.new _ .none .none vs) .none .none ps (by decide) ?_ (by rw [List.size_toArray]; omega)
    rw [PySem.W.krv_pick]
    exact ⟨.ref _, _, I5.laid (t' := s4.toks) (o := .lst xs.reverse) (fun b ob z => Heap.get?_push_of_some _ z) (Nat.le_refl _) ⟨by rw [List.length_reverse]; exact hz, _, 0, r.reverse, Heap.get?_push_size _ rfl⟩, rfl, q _ (I5.hok.fresh (Nat.le_refl _))⟩
  · obtain ⟨its, r, ht, hz⟩ := I5.tuple hx
    have hl := r.length
    refine tail_any (ops := [.ref a, .ref s4.heap.objs.size]) ht.typeIs (PyProof.Rows.slot_tuple_getitem.lookup) ?_ (by with_unfolding_all rfl)
    refine getItem_tuple_rev ht (Heap.IsSliceOf.new _ .none .none vs) ps ?_ (by rw [List.size_toArray]; omega)
    exact ⟨.ref _, _, I5.laid (t' := s4.toks) (o := .tup xs.reverse) (fun b ob z => Heap.get?_push_of_some _ z) (Nat.le_refl _) ⟨by rw [List.length_reverse]; exact hz, _, r.reverse, ⟨_, Heap.get?_push_size _ rfl, rfl, 0, rfl⟩⟩, rfl, q _ (I5.hok.fresh (Nat.le_refl _))⟩
def dRev : D → R D
  | .list xs => .ok (.list xs.reverse)
  | .tuple xs => .ok (.tuple xs.reverse)
  | _ => .bad
theorem de_revA (he : DE X H0 W κ rD e f) : DE X H0 W κ rQ (.Subscript e (.Slice none none (some (.UnaryOp .USub (.Constant (.int 1) k p1) p2)) p3) pos) (f1 dRev f) :=
  ⟨(pe_revA he.pe).cons fun σ H Q ⟨τ, r, p⟩ => ⟨τ, r, PostA.imp (PostA.bind p) fun d pd x H1 s1 hx => by
    cases d <;> try exact pd.elim
    · obtain ⟨l, xs, rfl, r1, i1, z1⟩ := rD_list hx
      exact ⟨l, xs, rfl, .inl ⟨r1, fun q n => pd _ _ (same_put s1 (s1.free n)) (.inr ⟨q, _, rfl, rfl, s1.free n, .lst upd_same (by rw [List.length_reverse]; exact z1) (i1.reverse.mono (Same.pers (same_upd n)))⟩)⟩⟩
    · obtain ⟨l, xs, rfl, r1, i1, z1⟩ := rD_tup hx
      exact ⟨l, xs, rfl, .inr ⟨r1, fun q n => pd _ _ (same_put s1 (s1.free n)) (.inl (.tup upd_same (by rw [List.length_reverse]; exact z1) (i1.reverse.mono (Same.pers (same_upd n)))))⟩⟩⟩⟩
end
end PL
set_option Elab.async false
set_option linter.all false
set_option maxRecDepth 100000
set_option maxHeartbeats 2000000
/-! PL29: x = {k: v for ..} on one line. -/
namespace PL
open PySem PySem.Spec PyProof.Rows L2
theorem sw_dict {kx vx : Expr} {gs : List Comprehension} {scope : Scope} {pos py : Pos} {y : Str} {l : Nat} {env : PySem.Env} (hk : env.scope.kind = .function) (hy : env.scope.names.lookup y = some .local) (hl : (py.line == pos.line) = true)
    (ha : (scope.names.any fun (n, k) => n == y && (k == .local || k == .cell)) = false) : swapsWith (.DictComp kx vx gs scope pos) (some (.Name y py)) l env = pure true := by
  have ky : env.kindOf y = some .local := hy
  have hb : env.blockKind = .function := by unfold PySem.Env.blockKind; rw [hk]; rfl
  unfold swapsWith
  simp only [hb, ky, ha, Expr.pos, hl]
  rfl
section
variable {X : Cx} {H0 : Hp} {W : XK} {κ κ' : Kds} {tg iter kx vx c : Expr} {ifs : List Expr} {vs ws : List Nat} {b : D → Env → R Env} {fi : Env → R (List D)} {fc : Env → R Bool} {fk fv : Env → R D} {pos : Pos} {scope : Scope} {own : List (Str × Nat)}
def taK (tk tv : TE) : Addr → L2.St → Hp → (Hp → Prop) → Prop := fun D σ H Nx => tk σ H fun y H1 => tv σ H1 fun z H2 => ∃ kvs k, y = kV k ∧ H2 D = some (.dK kvs) ∧ kvs.length < sizeLine ∧ Nx (upd H2 D (.dK (putK kvs k z)))
theorem dict_swap {i : Nat} {y : Str} {py spos : Pos} {ta : Addr → L2.St → Hp → (Hp → Prop) → Prop} {U0 : Addr → HO} {g : TG} {tt : TT} {wi : TI} (hc : X.calm = true) (hN : X.N.Nodup) (hy : X.N[i]? = some y) (hyl : X.env.scope.names.lookup y = some .local)
    (hsw : swapsWith (.DictComp kx vx [⟨tg, iter, ifs, 0⟩] scope pos) (some (.Name y py)) spos.line X.env = pure true) (hi : PI X tg iter wi) (ok : BlkOk X.N X.env.scope scope own)
    (hO : ∀ (H : Hp) (h : Heap), sysModules < h.objs.size → ObjOk X.prog X.w H (h.push { cls := .type "dict", data := .dict #[] }) h.objs.size (U0 h.objs.size))
    (hg : ∀ (s : Shared) (H : Hp) (C : Addr) (cl : List (Str × Addr)) (fp : List Addr), PG (X.blk s H scope (compEnvC scope cl C X.env) fp) tg g)
    (ht : ∀ (s : Shared) (H : Hp) (C : Addr) (cl : List (Str × Addr)) (fp : List Addr), PTs (X.blk s H scope (compEnvC scope cl C X.env) fp) ifs tt)
    (ha : ∀ (s : Shared) (H : Hp) (C : Addr) (cl : List (Str × Addr)) (fp : List Addr) (D : Addr) (pins : List (Addr × Obj)) (s1 : Shared) (σ1 : L2.St) (H1 : Hp) (Nx : Hp → Prop) (NE : Value → Shared → Prop) (G : Shared → Prop),
      Inv (X.blk s H scope (compEnvC scope cl C X.env) fp) pins σ1 H1 s1 → ta D σ1 H1 Nx → (∀ s2 H2, Inv (X.blk s H scope (compEnvC scope cl C X.env) fp) pins σ1 H2 s2 → Nx H2 → G s2) → actD X.prog X.w X.A kx vx D (compEnvC scope cl C X.env) NE G s1)
    (hs : ∀ x, foldedSetIterable iter X.env x = pure x) : PS X (.Assign [.Name y py] (.DictComp kx vx [⟨tg, iter, ifs, 0⟩] scope pos) spos) (tAsg (tGc wi g tt ta U0 (own.map (·.2))) (gName i)) := by
  refine ⟨fun pins s σ H Dn I h => ?_⟩
  rw [exec_Assign_Name_used _ _ _ _ hsw]
  refine wpAny_bind (wpAny_standAt (wpAny_bind ?_))
  show wpAny _ X.A (do let _ ← comprehension (.DictComp kx vx [⟨tg, iter, ifs, 0⟩] scope pos) scope X.env (firstIterPos [⟨tg, iter, ifs, 0⟩] pos) newDict false (eval iter X.env) (some (assign (.Name y py) X.env))) _ _ s
  refine wpAny_bind (thn (gc_core (Q := fun x H1 => gName i x σ H1 Dn.nx) (O := { cls := .type "dict", data := .dict #[] }) (act := actD X.prog X.w X.A kx vx) (Qf := fun _ s' => SP X pins Dn .next s') rfl
    (fun R s it D env I turn n h => compLoop_anyD I turn n h) (fun R s it acc env h0 h => codeAny_compStart_dict h0 h) (fun s Qv Ev h => wpAny_newObj_type h) hO hc hN I hi ok hg ht ha hs h fun L C s' m H' I' q hn f => ?_) fun _ s' hq => wpAny_pure (wpAny_pure hq))
  show wpAny _ _ (assign (.Name y py) X.env (.ref L)) _ _ _
  refine wpAny_assign_Name (store_ok2 (v := V.ref L) I' hN hy (.inl hyl) rfl (fun s2 I2 ⟨a, sb, ha⟩ => ?_) (.inr hyl))
  obtain ⟨f0, f1, f2, f3, f4, f5⟩ := f
  have apart : C ≠ a := ha.elim (fun z => by rw [z]; exact f1) fun z e => f4 y a z e.symm
  exact ⟨m, hn.sameBut sb apart, fun h3 sb3 => ⟨_, H', I2.turned (t' := s2.toks) (fun b o hb e => (sb3.2 b hb).trans e) f0 f1 f3 f4 f5, q⟩⟩
theorem act_K {kx vx : Expr} {tk tv : TE} {D : Addr} {pins : List (Addr × Obj)} {s1 : Shared} {σ1 : L2.St} {H1 : Hp} {Nx : Hp → Prop} {NE : Value → Shared → Prop} {G : Shared → Prop} (hk : PE X kx tk) (he : PE X vx tv) (hxe : X.xe = fun _ _ => False)
    (I1 : Inv X pins σ1 H1 s1) (a : taK tk tv D σ1 H1 Nx) (hG : ∀ s2 H2, Inv X pins σ1 H2 s2 → Nx H2 → G s2) : actD X.prog X.w X.A kx vx D X.env NE G s1 := by
  have hk' := fun pins s σ H Q I h => hk.run pins s σ H Q I h
  have he' := fun pins s σ H Q I h => he.run pins s σ H Q I h
  rw [hxe] at hk' he'
  refine thnF (hk' pins s1 σ1 H1 _ I1 a) fun kv s2 ⟨y, H2, I2, r2, a2⟩ => ?_
  refine thnF (he' pins s2 σ1 H2 _ I2 a2) fun vv s3 ⟨z, H3, I3, r3, kvs, k, ey, hD, hz, nx⟩ => ?_
  subst ey
  exact d_dictSet I3 hD hz r2 r3 fun s4 I4 => hG _ _ I4 nx
/-- x = {(..): v for ..} -/
theorem ps_dcT {i : Nat} {y : Str} {py spos : Pos} (hu : X.A.units + 65 < cLine) (hc : X.calm = true) (hN : X.N.Nodup) (hy : X.N[i]? = some y) (hyl : X.env.scope.names.lookup y = some .local)
    (hsw : swapsWith (.DictComp kx vx [⟨tg, iter, ifs, 0⟩] scope pos) (some (.Name y py)) spos.line X.env = pure true) (hi : DI X H0 W κ tg iter fi) (ok : BlkOk X.N X.env.scope scope own) (hvs : own.map (·.2) = vs)
    (hg : ∀ (s : Shared) (H : Hp) (C : Addr) (cl : List (Str × Addr)) (fp : List Addr), DP (X.blk s H scope (compEnvC scope cl C X.env) fp) H0 (wipeK κ vs) tg ws b κ')
    (ht : ∀ (s : Shared) (H : Hp) (C : Addr) (cl : List (Str × Addr)) (fp : List Addr), DTs (X.blk s H scope (compEnvC scope cl C X.env) fp) H0 E0 κ' ifs fc)
    (hk : ∀ (s : Shared) (H : Hp) (C : Addr) (cl : List (Str × Addr)) (fp : List Addr), DE (X.blk s H scope (compEnvC scope cl C X.env) fp) H0 E0 κ' rI kx fk)
    (he : ∀ (s : Shared) (H : Hp) (C : Addr) (cl : List (Str × Addr)) (fp : List Addr), DE (X.blk s H scope (compEnvC scope cl C X.env) fp) H0 E0 κ' rI vx fv)
    (hsub : ∀ j ∈ ws, j ∈ vs := by decide) (hs : ∀ x, foldedSetIterable iter X.env x = pure x := by intro _; rfl) :
    ∃ te, PS X (.Assign [.Name y py] (.DictComp kx vx [⟨tg, iter, ifs, 0⟩] scope pos) spos) (tAsg te (gName i)) ∧ ∀ σ H Q, tD X.K X.mg H0 W κ rM (fDcT vs fi b fc fk fv) σ H Q → te σ H Q :=
  ⟨_, dict_swap (ta := taT X.K (tD X.K X.mg H0 E0 κ' rI fk) (tD X.K X.mg H0 E0 κ' rI fv)) (U0 := fun _ => .dT []) hc hN hy hyl hsw hi.pi ok (fun H h hb => dt_empty h hb) (fun s H C cl fp => (hg s H C cl fp).pg) (fun s H C cl fp => (ht s H C cl fp).pt)
    (fun s H C cl fp D pins s1 σ1 H1 Nx NE G I1 a hG => act_T (X := X.blk s H scope (compEnvC scope cl C X.env) fp) hu (hk s H C cl fp).pe (he s H C cl fp).pe rfl I1 a hG) hs, fun σ H Q h => by rw [hvs]; exact tDcT_of hsub h⟩
/-- x = {k: v for ..} -/
theorem ps_dc {i : Nat} {y : Str} {py spos : Pos} (hc : X.calm = true) (hN : X.N.Nodup) (hy : X.N[i]? = some y) (hyl : X.env.scope.names.lookup y = some .local)
    (hsw : swapsWith (.DictComp kx vx [⟨tg, iter, ifs, 0⟩] scope pos) (some (.Name y py)) spos.line X.env = pure true) (hi : DI X H0 W κ tg iter fi) (ok : BlkOk X.N X.env.scope scope own) (hvs : own.map (·.2) = vs)
    (hg : ∀ (s : Shared) (H : Hp) (C : Addr) (cl : List (Str × Addr)) (fp : List Addr), DP (X.blk s H scope (compEnvC scope cl C X.env) fp) H0 (wipeK κ vs) tg ws b κ')
    (ht : ∀ (s : Shared) (H : Hp) (C : Addr) (cl : List (Str × Addr)) (fp : List Addr), DTs (X.blk s H scope (compEnvC scope cl C X.env) fp) H0 E0 κ' ifs fc)
    (hk : ∀ (s : Shared) (H : Hp) (C : Addr) (cl : List (Str × Addr)) (fp : List Addr), DE (X.blk s H scope (compEnvC scope cl C X.env) fp) H0 E0 κ' rI kx fk)
    (he : ∀ (s : Shared) (H : Hp) (C : Addr) (cl : List (Str × Addr)) (fp : List Addr), DE (X.blk s H scope (compEnvC scope cl C X.env) fp) H0 E0 κ' rI vx fv)
    (hsub : ∀ j ∈ ws, j ∈ vs := by decide) (hs : ∀ x, foldedSetIterable iter X.env x = pure x := by intro _; rfl) :
    ∃ te, PS X (.Assign [.Name y py] (.DictComp kx vx [⟨tg, iter, ifs, 0⟩] scope pos) spos) (tAsg te (gName i)) ∧ ∀ σ H Q, tD X.K X.mg H0 W κ rM (fDc vs fi b fc fk fv) σ H Q → te σ H Q :=
  ⟨_, dict_swap (ta := taK (tD X.K X.mg H0 E0 κ' rI fk) (tD X.K X.mg H0 E0 κ' rI fv)) (U0 := fun _ => .dK []) hc hN hy hyl hsw hi.pi ok (fun H h hb => dk_empty h hb) (fun s H C cl fp => (hg s H C cl fp).pg) (fun s H C cl fp => (ht s H C cl fp).pt)
    (fun s H C cl fp D pins s1 σ1 H1 Nx NE G I1 a hG => act_K (X := X.blk s H scope (compEnvC scope cl C X.env) fp) (hk s H C cl fp).pe (he s H C cl fp).pe rfl I1 a hG) hs, fun σ H Q h => by rw [hvs]; exact tDc_of hsub h⟩
end
end PL
set_option Elab.async false
set_option linter.all false
set_option maxRecDepth 100000
set_option maxHeartbeats 1000000
/-! PL30: max, min. -/
namespace PL
open PySem PySem.Spec PyProof.Rows L2
open PySem.W (dataLt)
/-- texts alone, or whole numbers alone -/
def flatOk (ds : List D) : Bool := ds.all (fun d => match d with | .str _ => true | _ => false) || ds.all (fun d => match d with | .int _ => true | _ => false)
def ltAt (ds : List D) (i j : Nat) : Bool := dataLt (ds.getD i .none) (ds.getD j .none)
/-- the first of the greatest, of the least -/
def pickMax (ds : List D) : D := ds.getD (argBest (fun i j => ltAt ds j i) (ds.length - 1)) .none
def pickMin (ds : List D) : D := ds.getD (argBest (fun i j => ltAt ds i j) (ds.length - 1)) .none
def dMaxOf (ds : List D) : R D := if ds ≠ [] ∧ flatOk ds = true then .ok (pickMax ds) else .bad
def dMinOf (ds : List D) : R D := if ds ≠ [] ∧ flatOk ds = true then .ok (pickMin ds) else .bad
def dMax : D → R D
  | .list ds => dMaxOf ds
  | .tuple ds => dMaxOf ds
  | _ => .bad
def dMin : D → R D
  | .list ds => dMinOf ds
  | .tuple ds => dMinOf ds
  | _ => .bad
def dMax2 (a b : D) : R D := dMaxOf [a, b]
def dMin2 (a b : D) : R D := dMinOf [a, b]
/-- an item and what it is -/
def ValIs (ds : List D) (i : Nat) (v : Value) : Prop := (∃ z t, ds[i]? = some (.str z) ∧ v = .str z t ∧ sOk z = true) ∨ ∃ n t, ds[i]? = some (.int n) ∧ v = .int n t
theorem valIs_get {K : PySem.W.Frag} {H : Hp} {xs : List V} {its : List Value} {ds : List D} (r : Vals xs its) (i : ImAll K H xs ds) (f : flatOk ds = true) {j : Nat} {v : Value} (h : its[j]? = some v) : ValIs ds j v ∧ ∃ x d, ds[j]? = some d ∧ RelV x v ∧ Im K H x d := by
  have hl : j < its.length := (List.getElem?_eq_some_iff.mp h).1
  obtain ⟨x, hx⟩ : ∃ x, xs[j]? = some x := ⟨xs[j]'(by rw [r.length]; exact hl), List.getElem?_eq_getElem _⟩
  obtain ⟨u, hu, ru⟩ := r.get hx
  rw [h] at hu; cases hu
  obtain ⟨d, hd, im⟩ := i.getV hx
  refine ⟨?_, x, d, hd, ru, im⟩
  have hm : d ∈ ds := List.mem_of_getElem? hd
  rcases Bool.or_eq_true_iff.mp f with g | g
  · have := List.all_eq_true.mp g d hm
    cases d with
    | str z =>
      cases im with
      | str _ ok => obtain ⟨t, rfl⟩ := ru; exact .inl ⟨z, t, hd, rfl, ok⟩
    | _ => cases this
  · have := List.all_eq_true.mp g d hm
    cases d with
    | int n =>
      cases im with
      | int _ => obtain ⟨t, rfl⟩ := ru; exact .inr ⟨n, t, hd, rfl⟩
    | _ => cases this
theorem flat_two {ds : List D} (f : flatOk ds = true) {i j : Nat} {z : Str} {n : Int} (h1 : ds[i]? = some (.str z)) (h2 : ds[j]? = some (.int n)) : False := by
  rcases Bool.or_eq_true_iff.mp f with g | g
  · have := List.all_eq_true.mp g _ (List.mem_of_getElem? h2); cases this
  · have := List.all_eq_true.mp g _ (List.mem_of_getElem? h1); cases this
theorem getD_of {ds : List D} {i : Nat} {d : D} (h : ds[i]? = some d) : ds.getD i .none = d := by rw [List.getD_eq_getElem?_getD, h]; rfl
section
variable {prog : Program} {w : World} {A : Around} {E : Value → Shared → Prop} {s : Shared}
theorem cmpGt {ds : List D} (f : flatOk ds = true) {P : Nat → Value → Prop} (hP : ∀ i v, P i v → ValIs ds i v) : CmpOf prog w A .Gt P (fun i j => ltAt ds j i) := fun i j vi vj s Q E hi hj h => by
  have h : Q (.bool (ltAt ds j i)) s := h
  rcases hP i vi hi with ⟨z, t, e, rfl, _⟩ | ⟨n, t, e, rfl⟩
  · rcases hP j vj hj with ⟨y, u, e2, rfl, _⟩ | ⟨m, u, e2, rfl⟩
    · rw [ltAt, getD_of e, getD_of e2, PySem.W.dataLt_str] at h
      exact richCompare_gives (op := .Gt) (typeIs_str s z t) (typeIs_str s y u) PySem.F.slot_str_gt PySem.F.entry_str_gt (PySem.F.args_str_gt_2 _ _) (gives_str_gt z y t u) (fun x => nomatch x) h
    · exact (flat_two f e e2).elim
  · rcases hP j vj hj with ⟨y, u, e2, rfl, _⟩ | ⟨m, u, e2, rfl⟩
    · exact (flat_two f e2 e).elim
    · rw [ltAt, getD_of e, getD_of e2, PySem.W.dataLt_int] at h
      exact richCompare_gives (op := .Gt) (typeIs_int s n t) (typeIs_int s m u) PySem.F.slot_int_gt PySem.F.entry_int_gt (PySem.F.args_int_gt_2 _ _) (gives_int_gt n m t u) (fun x => nomatch x) h
theorem cmpLt {ds : List D} (f : flatOk ds = true) {P : Nat → Value → Prop} (hP : ∀ i v, P i v → ValIs ds i v) : CmpOf prog w A .Lt P (fun i j => ltAt ds i j) := fun i j vi vj s Q E hi hj h => by
  have h : Q (.bool (ltAt ds i j)) s := h
  rcases hP i vi hi with ⟨z, t, e, rfl, _⟩ | ⟨n, t, e, rfl⟩
  · rcases hP j vj hj with ⟨y, u, e2, rfl, _⟩ | ⟨m, u, e2, rfl⟩
    · rw [ltAt, getD_of e, getD_of e2, PySem.W.dataLt_str] at h
      exact richCompare_gives (op := .Lt) (typeIs_str s z t) (typeIs_str s y u) PySem.F.slot_str_lt PySem.F.entry_str_lt (PySem.F.args_str_lt_2 _ _) (gives_str_lt z y t u) (fun x => nomatch x) h
    · exact (flat_two f e e2).elim
  · rcases hP j vj hj with ⟨y, u, e2, rfl, _⟩ | ⟨m, u, e2, rfl⟩
    · exact (flat_two f e2 e).elim
    · rw [ltAt, getD_of e, getD_of e2, PySem.W.dataLt_int] at h
      exact richCompare_gives (op := .Lt) (typeIs_int s n t) (typeIs_int s m u) PySem.F.slot_int_lt PySem.F.entry_int_lt (PySem.F.args_int_lt_2 _ _) (gives_int_lt n m t u) (fun x => nomatch x) h
/-- a tuple or a list is walked by its own walk -/
theorem walk_of_seq {l : Addr} {items : Array Value} {op : CmpOp} {bt : Nat → Nat → Bool} {Q : Value → Shared → Prop} (hh : A.handled = none) (hl : s.heap.IsList l items ∨ s.heap.IsTuple l items) (hne : 0 < items.size) (hc : CmpOf prog w A op (fun i v => items[i]? = some v) bt)
    (h : ∀ v h' tk, items[argBest bt (items.size - 1)]? = some v → (∀ b o, s.heap.get? b = some o → h'.get? b = some o) → Q v { s with heap := h', toks := tk }) :
    wpAny (model prog w) A (pyIter (.ref l)) (fun it s₂ => ∃ I fp wr n P St bt', it = .ref I ∧ Walks prog w A I fp wr n P St ∧ St 0 s₂.heap ∧ (∀ b ∈ fp, b < s₂.heap.objs.size) ∧ 0 < n ∧ CmpOf prog w A op P bt' ∧
      ∀ v h' tk, P (argBest bt' (n - 1)) v → (∀ b o, b ∉ wr → s₂.heap.get? b = some o → h'.get? b = some o) → Q v { s₂ with heap := h', toks := tk }) E s := by
  have keep : ∀ (O : Obj) (h' : Heap), (∀ b o, b ∉ [s.heap.objs.size] → (s.heap.push O).get? b = some o → h'.get? b = some o) → ∀ b o, s.heap.get? b = some o → h'.get? b = some o := fun O h' hk b o e =>
    hk b o (fun hm => absurd (Heap.lt_size e) (by rw [List.mem_singleton.mp hm]; exact Nat.lt_irrefl _)) (Heap.get?_push_of_some _ e)
  have lt : l < s.heap.objs.size := by
    rcases hl with ⟨_, e, _⟩ | ⟨_, e, _⟩ <;> exact Heap.lt_size e
  have fpl : ∀ (O : Obj), ∀ b ∈ [s.heap.objs.size, l], b < (s.heap.push O).objs.size := fun O b hb => by
    rw [Heap.size_push]
    rcases (show b = s.heap.objs.size ∨ b = l by simpa using hb) with z | z
    · rw [z]; exact Nat.lt_succ_self _
    · rw [z]; exact Nat.lt_succ_of_lt lt
  rcases hl with hl | hl
  · exact wpAny_pyIter_list hl ⟨_, _, _, _, _, _, _, rfl, Walks.list hh _ l (Nat.ne_of_lt lt) items, ⟨⟨_, Heap.get?_push_size _ rfl, rfl, rfl⟩, hl.push _⟩, fpl _, hne, hc, fun v h' tk hP hk => h v h' tk hP (keep _ h' hk)⟩
  · exact wpAny_pyIter_tuple hl ⟨_, _, _, _, _, _, _, rfl, Walks.tuple hh _ l (Nat.ne_of_lt lt) items, ⟨⟨_, Heap.get?_push_size _ rfl, rfl, rfl⟩, hl.push _⟩, fpl _, hne, hc, fun v h' tk hP hk => h v h' tk hP (keep _ h' hk)⟩
end
section
variable {X : Cx} {W : XK}
theorem dc_mm (bn : String) (op : CmpOp) (bt : List D → Nat → Nat → Bool) (hcmp : ∀ {ds : List D} (f : flatOk ds = true) {P : Nat → Value → Prop} (hP : ∀ i v, P i v → ValIs ds i v), CmpOf X.prog X.w X.A.in1 op P (bt ds))
    (hcall : ∀ {x : Value} {Q : Value → Shared → Prop} {E : Value → Shared → Prop} {s : Shared}, wpAny (model X.prog X.w) X.A.in1 (pyIter x) (fun it s₂ => ∃ I fp wr n P St bt', it = .ref I ∧ Walks X.prog X.w X.A.in1 I fp wr n P St ∧ St 0 s₂.heap ∧ (∀ b ∈ fp, b < s₂.heap.objs.size) ∧ 0 < n ∧ CmpOf X.prog X.w X.A.in1 op P bt' ∧
      ∀ v h' tk, P (argBest bt' (n - 1)) v → (∀ b o, b ∉ wr → s₂.heap.get? b = some o → h'.get? b = some o) → Q v { s₂ with heap := h', toks := tk }) E s → wpAny (model X.prog X.w) X.A (call (.builtin bn) [x]) Q E s)
    (hc : X.calm = true) {pins : List (Addr × Obj)} {s : Shared} {σ : L2.St} {H : Hp} {l : Addr} {xs : List V} {ds : List D} {Q : VK} (I : Inv X pins σ H s) (hs : SqL X.K H l xs ∨ SqT X.K H l xs) (im : ImAll X.K H xs ds) (ne : ds ≠ []) (f : flatOk ds = true)
    (q : ∀ v, Im X.K H v (ds.getD (argBest (bt ds) (ds.length - 1)) .none) → Q v H) : wpAny (model X.prog X.w) X.A (call (.builtin bn) [.ref l]) (EP X pins σ Q) X.xe s := by
  obtain ⟨its, rv, hl⟩ : ∃ its, Vals xs its ∧ (s.heap.IsList l its.toArray ∨ s.heap.IsTuple l its.toArray) := by
    rcases hs with h | h
    · obtain ⟨its, r, p, _⟩ := I.list h; exact ⟨its, r, .inl p.isList⟩
    · obtain ⟨its, r, p, _⟩ := I.tuple h; exact ⟨its, r, .inr p⟩
  have len : its.length = ds.length := by rw [← rv.length, im.length]
  have pos : 0 < ds.length := List.length_pos_iff.mpr ne
  refine hcall (walk_of_seq (I.ok.hd hc) hl (by simpa [len] using pos) (hcmp f fun i v h => (valIs_get rv im f (by simpa using h)).1) fun v h' tk hP hk => ?_)
  have hP' : its[argBest (bt ds) (ds.length - 1)]? = some v := by simpa [len] using hP
  obtain ⟨_, x, d, hd, rx, ix⟩ := valIs_get rv im f hP'
  exact ⟨x, H, I.kept hk, rx, q x (by rw [getD_of hd]; exact ix)⟩
theorem dc_max (hc : X.calm = true) : DC1 X W (.builtin "max") dMax rE rI := by
  intro pins s σ H x v a Q I rx ha q
  have go : ∀ ds l xs, x = .ref l → (SqL X.K H l xs ∨ SqT X.K H l xs) → ImAll X.K H xs ds → Post X.K X.mg W rI H Q (dMaxOf ds) → wpAny (model X.prog X.w) X.A (call (.builtin "max") [v]) (EP X pins σ Q) X.xe s := fun ds l xs ex hs im q => by
    subst ex
    cases rx
    unfold dMaxOf at q
    by_cases c : ds ≠ [] ∧ flatOk ds = true
    · rw [if_pos c] at q
      exact dc_mm "max" .Gt (fun ds i j => ltAt ds j i) (fun f _ hP => cmpGt f hP) (fun h => call_max_walk h) hc I hs im c.1 c.2 fun v iv => q v H (Same.refl H) iv
    · rw [if_neg c] at q; exact q.elim
  cases a <;> try exact q.elim
  · obtain ⟨l, xs, e, r1, i1, z1⟩ := rE_list ha; exact go _ l xs e (.inl (.inl r1)) i1 q
  · obtain ⟨l, xs, e, r1, i1, z1⟩ := rE_tup ha; exact go _ l xs e (.inr r1) i1 q
theorem dc_min (hc : X.calm = true) : DC1 X W (.builtin "min") dMin rE rI := by
  intro pins s σ H x v a Q I rx ha q
  have go : ∀ ds l xs, x = .ref l → (SqL X.K H l xs ∨ SqT X.K H l xs) → ImAll X.K H xs ds → Post X.K X.mg W rI H Q (dMinOf ds) → wpAny (model X.prog X.w) X.A (call (.builtin "min") [v]) (EP X pins σ Q) X.xe s := fun ds l xs ex hs im q => by
    subst ex
    cases rx
    unfold dMinOf at q
    by_cases c : ds ≠ [] ∧ flatOk ds = true
    · rw [if_pos c] at q
      exact dc_mm "min" .Lt (fun ds i j => ltAt ds i j) (fun f _ hP => cmpLt f hP) (fun h => call_min_walk h) hc I hs im c.1 c.2 fun v iv => q v H (Same.refl H) iv
    · rw [if_neg c] at q; exact q.elim
  cases a <;> try exact q.elim
  · obtain ⟨l, xs, e, r1, i1, z1⟩ := rE_list ha; exact go _ l xs e (.inl (.inl r1)) i1 q
  · obtain ⟨l, xs, e, r1, i1, z1⟩ := rE_tup ha; exact go _ l xs e (.inr r1) i1 q
theorem mm2 (op : CmpOp) (bt : List D → Nat → Nat → Bool) {bn : String} (hcmp : ∀ {ds : List D} (f : flatOk ds = true) {P : Nat → Value → Prop} (hP : ∀ i v, P i v → ValIs ds i v), CmpOf X.prog X.w X.A.in1 op P (bt ds))
    (hcall : ∀ {a b : Value} {Q : Value → Shared → Prop} {E : Value → Shared → Prop} {s : Shared}, wpAny (model X.prog X.w) X.A.in1 (pyIter (.ref s.heap.objs.size)) (fun it s₂ => ∃ I fp wr n P St bt', it = .ref I ∧ Walks X.prog X.w X.A.in1 I fp wr n P St ∧ St 0 s₂.heap ∧ (∀ b ∈ fp, b < s₂.heap.objs.size) ∧ 0 < n ∧ CmpOf X.prog X.w X.A.in1 op P bt' ∧
      ∀ v h' tk, P (argBest bt' (n - 1)) v → (∀ b o, b ∉ wr → s₂.heap.get? b = some o → h'.get? b = some o) → Q v { s₂ with heap := h', toks := tk }) E { s with heap := s.heap.push { cls := .type "tuple", data := .seq #[a, b] } } → wpAny (model X.prog X.w) X.A (call (.builtin bn) [a, b]) Q E s)
    (hc : X.calm = true) : CallR X (.builtin bn) (fun xs H Q => ∃ x y a b, xs = [x, y] ∧ Im X.K H x a ∧ Im X.K H y b ∧ flatOk [a, b] = true ∧ ∀ v, Im X.K H v (([a, b] : List D).getD (argBest (bt [a, b]) 1) .none) → Q v H) := by
  intro pins s σ H xs us Q I r ⟨x, y, a, b, e, ia, ib, f, q⟩
  subst e
  obtain ⟨u, w', rfl, rx, ry⟩ := vals2 r
  have im : ImAll X.K H [x, y] [a, b] := .cons ia (.cons ib .nil)
  have rv : Vals [x, y] [u, w'] := .cons rx (.cons ry .nil)
  have hT : (s.heap.push { cls := .type "tuple", data := .seq #[u, w'] }).IsTuple s.heap.objs.size #[u, w'] := ⟨_, Heap.get?_push_size _ rfl, rfl, 0, rfl⟩
  refine hcall (walk_of_seq (I.ok.hd hc) (.inr hT) (by simp) (hcmp f fun i v h => (valIs_get rv im f (by simpa using h)).1) fun v h' tk hP hk => ?_)
  have hP' : ([u, w'] : List Value)[argBest (bt [a, b]) 1]? = some v := by simpa using hP
  obtain ⟨_, z, d, hd, rz, iz⟩ := valIs_get rv im f hP'
  exact ⟨z, H, I.kept fun b o e => hk b o (Heap.get?_push_of_some _ e), rz, q z (by rw [getD_of hd]; exact iz)⟩
end
section
variable {X : Cx} {H0 : Hp} {W : XK} {κ : Kds} {a b : Expr} {fa fb : Env → R D} {pos p : Pos}
theorem de_min2 (hc : X.calm = true) (hg : Gl X "min") (hm : X.mg "min" = none) (ha : DE X H0 W κ rI a fa) (hb : DE X H0 W κ rI b fb) (hs : starEach [a, b] X.env = (false, eval a X.env) :: starEach [b] X.env := by rfl) (hs2 : starEach [b] X.env = (false, eval b X.env) :: starEach [] X.env := by rfl)
    (hpl : (backTo pos (starEach [b] X.env)).any (·.1) = false := by rfl) : DE X H0 W κ rI (.Call (.Name "min" p) [a, b] [] pos) (f2 dMin2 fa fb) :=
  ⟨(pe_callB (mm2 .Lt (fun ds i j => ltAt ds i j) (fun f _ hP => cmpLt f hP) (fun h => call_min_two h) hc) hg hm (PyProof.Rows.boot_min) (pa_cons ha.pe (pa_cons hb.pe pa_nil hs2) hs) (by decide) (by decide) hs hpl).cons fun σ H Q ⟨τ, r, q⟩ =>
    ⟨τ, r, PostA.imp (PostA.bind q) fun d1 q1 v1 H1 s1 i1 => ⟨τ, r.to s1, PostA.imp (PostA.bind (PostA.to q1 s1)) fun d2 q2 v2 H2 s2 i2 => by
      unfold dMin2 dMinOf at q2
      by_cases c : [d1, d2] ≠ [] ∧ flatOk [d1, d2] = true
      · rw [if_pos c] at q2
        exact ⟨v1, v2, d1, d2, rfl, Im.mono (Same.pers s2) i1, i2, c.2, fun v iv => q2 v H2 (s1.trans s2) iv⟩
      · rw [if_neg c] at q2; exact q2.elim⟩⟩⟩
theorem de_max2 (hc : X.calm = true) (hg : Gl X "max") (hm : X.mg "max" = none) (ha : DE X H0 W κ rI a fa) (hb : DE X H0 W κ rI b fb) (hs : starEach [a, b] X.env = (false, eval a X.env) :: starEach [b] X.env := by rfl) (hs2 : starEach [b] X.env = (false, eval b X.env) :: starEach [] X.env := by rfl)
    (hpl : (backTo pos (starEach [b] X.env)).any (·.1) = false := by rfl) : DE X H0 W κ rI (.Call (.Name "max" p) [a, b] [] pos) (f2 dMax2 fa fb) :=
  ⟨(pe_callB (mm2 .Gt (fun ds i j => ltAt ds j i) (fun f _ hP => cmpGt f hP) (fun h => call_max_two h) hc) hg hm (PyProof.Rows.boot_max) (pa_cons ha.pe (pa_cons hb.pe pa_nil hs2) hs) (by decide) (by decide) hs hpl).cons fun σ H Q ⟨τ, r, q⟩ =>
    ⟨τ, r, PostA.imp (PostA.bind q) fun d1 q1 v1 H1 s1 i1 => ⟨τ, r.to s1, PostA.imp (PostA.bind (PostA.to q1 s1)) fun d2 q2 v2 H2 s2 i2 => by
      unfold dMax2 dMaxOf at q2
      by_cases c : [d1, d2] ≠ [] ∧ flatOk [d1, d2] = true
      · rw [if_pos c] at q2
        exact ⟨v1, v2, d1, d2, rfl, Im.mono (Same.pers s2) i1, i2, c.2, fun v iv => q2 v H2 (s1.trans s2) iv⟩
      · rw [if_neg c] at q2; exact q2.elim⟩⟩⟩
end
end PL
set_option Elab.async false
set_option linter.all false
set_option maxRecDepth 100000
set_option maxHeartbeats 1000000
/-! PL31: list(d) of any dict; xs.count of texts. -/
namespace PL
open PySem PySem.Spec PyProof.Rows L2
def dKeysA : D → R D
  | .dict kvs => if markT kvs = true then .ok (.list (kvs.tail.map (·.1))) else .ok (.list (kvs.map (·.1)))
  | _ => .bad
theorem kt_im {K : PySem.W.Frag} {H : Hp} {ks : List (List Key × V)} {xs : List (List Key × Addr × Value)} (rel : KT H ks xs) (k1 : ∀ p ∈ ks, ∀ k ∈ p.1, kOk k) (hz : ∀ b ys, H b = some (.tup ys) → ys.length ≤ sizeLine) : ImAll K H (xs.map fun q => V.ref q.2.1) (ks.map fun p => PyData.tuple (p.1.map keyD)) := by
  induction rel with
  | nil => exact .nil
  | @cons p q ps qs hpq t ih =>
    have z := hz _ _ hpq.2.1
    exact .cons (.tup hpq.2.1 (by simpa using z) (kVs_im fun k hk => k1 p List.mem_cons_self k hk)) (ih fun r hr => k1 r (List.mem_cons_of_mem _ hr))
section
variable {X : Cx} {W : XK}
theorem dc_listDA (hc : X.calm = true) : DC1 X W (.type "list") dKeysA rD rN := by
  intro pins s σ H x v a Q I rx ha q
  cases a with
  | dict kvs =>
    simp only [dKeysA] at q
    by_cases hm : markT kvs = true
    · rw [if_pos hm] at q
      obtain ⟨a, rfl, ⟨ks, ds, r1, k1, i1, e⟩ | ⟨ks, ds, r1, k1, i1, e⟩⟩ := rD_dict ha
      · rw [e, mark_K] at hm; cases hm
      · subst e
        cases rx
        obtain ⟨z, lo, xs, rel, dd⟩ := dt_rd I.hok r1
        obtain ⟨o, es, ep, ho, c1, c2, c3, c4, c5⟩ := id dd
        have hraw : s.heap.DictRaw a es ep := ⟨o, ho, c1, c2⟩
        have esz : es.size = xs.length := by rw [← Array.length_toList, c3, List.length_map]
        have lk : ks.length = xs.length := Paired.length rel
        have ek : (((PyData.none, PyData.none) :: (ks.map fun p => PyData.tuple (p.1.map keyD)).zip ds).tail.map (·.1)) = ks.map fun p => PyData.tuple (p.1.map keyD) := by
          rw [List.tail_cons]
          exact List.map_fst_zip (by have := i1.length; simp at this ⊢; omega)
        rw [ek] at q
        refine PySem.W.kdl_call (PySem.KdlSrc.rawDict (prog := X.prog) (w := X.w) (d := a) (es := es) (ep := ep) lo) (I.ok.hd hc) hraw (by rw [esz, ← lk]; exact z) fun h' tk acc c' hk hD hacc => ?_
        have hv : Vals (xs.map fun p => V.ref p.2.1) acc.toList := vals_of_at (by have := hacc.1; simp; omega) fun j y u hy hu => by
          obtain ⟨hj, ev⟩ := hacc.2 j u (by rw [← Array.getElem?_toList]; exact hu)
          rw [List.getElem?_map] at hy
          have e1 : es[j]? = (xs[j]?).map (entryOfKey (tupleKind (mixKind X.prog X.w))) := entry_at c3 j
          rw [Array.getElem?_eq_getElem hj] at e1
          cases hx : xs[j]? with
          | none => rw [hx] at hy; cases hy
          | some r =>
            rw [hx] at hy e1
            cases hy
            have e2 : es[j] = entryOfKey (tupleKind (mixKind X.prog X.w)) r := by injection e1
            rw [ev, e2]
            rfl
        have hn : H s.heap.objs.size = none := I.hok.fresh (Nat.le_refl _)
        have im := kt_im (K := X.K) rel k1 fun b ys hb => by
          obtain ⟨z, _⟩ := (show ObjOk X.prog X.w H s.heap b (.tup ys) from I.hok b _ hb)
          exact z
        refine ⟨.ref s.heap.objs.size, upd H s.heap.objs.size (.lst (xs.map fun p => V.ref p.2.1)), I.laid (t' := tk) hk (Nat.le_refl _) (show ObjOk X.prog X.w _ _ _ (.lst _) from ⟨by rw [List.length_map, ← lk]; exact z, acc.toList, c', hv, by rw [Array.toArray_toList]; exact hD⟩), rfl,
          q _ _ (same_upd hn) ⟨_, _, rfl, rfl, hn, .lst upd_same (by rw [List.length_map]; exact z) (im.mono (Same.pers (same_upd hn)))⟩⟩
    · rw [if_neg hm] at q
      exact dc_listD hc pins s σ H x v (.dict kvs) Q I rx ha (by simp only [dKeys]; rw [if_neg hm]; exact q)
  | _ => exact q.elim
/-- whether it is that text -/
def isTx (k : Str) : Value → Bool
  | .str z _ => z == k
  | _ => false
theorem isTx_at {A : Around} {s : Shared} {k : Str} {t : Tok} : ∀ {zs : List Str} {us : List Value}, Vals (zs.map V.str) us → ∀ y ∈ us, PySem.SeqAt.EqAt A s y (.str k t) (isTx k y)
  | [], _, .nil, y, h => absurd h List.not_mem_nil
  | z :: zs, _, .cons r rr, y, h => by
    rcases List.mem_cons.mp h with e | h
    · obtain ⟨u, hu⟩ := r
      rw [e, hu]
      exact PySem.SeqAt.EqAt.str_str z u k t
    · exact isTx_at rr y h
theorem isTx_count {k : Str} : ∀ {zs : List Str} {us : List Value}, Vals (zs.map V.str) us → us.countP (isTx k) = zs.count k
  | [], _, .nil => rfl
  | z :: zs, _, .cons r rr => by
    obtain ⟨u, hu⟩ := r
    rw [hu, List.countP_cons, List.count_cons, isTx_count rr]; rfl
def txOf : List D → Option (List Str)
  | [] => some []
  | .str z :: r => (txOf r).map (z :: ·)
  | _ :: _ => none
theorem txOf_map : ∀ zs : List Str, txOf (zs.map .str) = some zs
  | [] => rfl
  | z :: zs => by rw [List.map_cons]; unfold txOf; rw [txOf_map zs]; rfl
theorem txOf_im {K : PySem.W.Frag} {H : Hp} : ∀ {xs : List V} {ds : List D} {zs : List Str}, ImAll K H xs ds → txOf ds = some zs → xs = zs.map V.str
  | _, _, _, .nil, e => by cases e; rfl
  | _, _, _, .cons h t, e => by
    cases h with
    | str z ok =>
      unfold txOf at e
      obtain ⟨r, hr, e2⟩ := Option.map_eq_some_iff.mp e
      subst e2
      rw [txOf_im t hr]; rfl
    | _ => cases e
def dCount : D → D → R D
  | .list xs, .str k => match txOf xs with | some zs => .ok (.int (zs.count k)) | none => .bad
  | _, _ => .bad
def fCount (fo fe : Env → R D) : Env → R D := fun τ => (fo τ).bind fun d => match d with | .list xs => (fe τ).bind fun k => dCount (.list xs) k | _ => .bad
def rCntS (K : PySem.W.Frag) : V → List V → Hp → VK → Prop := fun x xs H Q => ∃ (p : Addr) (zs : List Str) (k : Str), x = .ref p ∧ xs = [.str k] ∧ SqL K H p (zs.map V.str) ∧ Q (.int (zs.count k : Nat)) H
theorem mt_countS : MtR X "list.count" (rCntS X.K) := by
  intro pins s σ H x xs v us Q I rx rxs ⟨p, zs, k, e1, e2, hs, q⟩
  subst e1 e2
  cases rx
  obtain ⟨u, rfl, ru⟩ := rxs.one
  obtain ⟨t, rfl⟩ := ru
  obtain ⟨its, rv, ⟨⟨cls, dd, data, sl⟩, n, ho, hc, hdn, hd⟩, hlen⟩ := I.list hs
  simp only at hc hd
  subst hc hd
  refine call_meets PySem.F.slot_list_count ⟨_, ho, rfl⟩ PySem.F.entry_list_count (PySem.F.args_list_count_2 _ _) (SeqAt.list_countAt p its.toArray n dd sl (.str k t) (isTx k)) ⟨ho, fun y hy => isTx_at rv y (by simpa using hy), ?_⟩
  refine ⟨.int (zs.count k : Nat), H, I.tok _, ⟨s.toks, ?_⟩, q⟩
  have ec : its.toArray.toList.countP (isTx k) = zs.count k := isTx_count rv
  show Value.int ((its.toArray.toList.countP (isTx k) : Nat) : Int) s.toks = _
  rw [ec]
end
section
variable {X : Cx} {H0 : Hp} {W : XK} {κ : Kds} {o e : Expr} {fo fe : Env → R D} {apos cpos : Pos}
theorem de_count (ho : DE X H0 W κ rI o fo) (he : DE X H0 W κ rI e fe)
    (hbase : attributeBase o "count" X.env (eval o X.env) = eval o X.env := by rfl)
    (hfew : ((backTo cpos (starEach [e] X.env)).all (fun x => !x.1) && (backToKw cpos (keywordEach [] X.env)).all (fun x => x.1.isSome)
      && decide (([e] : List Expr).length + ([] : List Keyword).length + (if ([] : List Keyword).isEmpty then 0 else 1) < 30)) = true := by rfl)
    (hline : (apos.endLine == cpos.line) = true := by rfl) (hst : starEach [e] X.env = (false, eval e X.env) :: starEach [] X.env := by rfl) (hplain : (backTo cpos (starEach [] X.env)).any (·.1) = false := by rfl) :
    DE X H0 W κ rI (.Call (.Attribute o "count" apos) [e] [] cpos) (fCount fo fe) :=
  ⟨(pe_bm PySem.F.plainAttrs_list PySem.F.slot_list_count PySem.F.type_list_count mt_countS ho.pe (pa_cons he.pe pa_nil hst) hbase hfew hline hst hplain).cons fun σ H Q ⟨τ, r, q⟩ => by
    have q1 := PostA.bind q
    cases e1 : fo τ with
    | bad => rw [e1] at q1; exact q1.elim
    | err n => exact ⟨τ, r, by rw [e1] at q1 ⊢; exact q1⟩
    | ok d1 =>
      rw [e1] at q1
      cases d1 with
      | list xs =>
        have q2 := PostA.bind q1
        refine ⟨τ, r, ?_⟩
        rw [e1]
        intro v1 H1 s1 i1
        cases i1 with
        | lst h1 z1 im =>
          refine ⟨.inl ⟨rfl, _, h1.sq⟩, τ, r.to s1, PostA.imp (PostA.to q2 s1) fun d2 q3 v2 H2 s2 i2 => ?_⟩
          cases d2 with
          | str k =>
            simp only [dCount] at q3
            cases et : txOf xs with
            | none => rw [et] at q3; exact q3.elim
            | some zs =>
              rw [et] at q3
              have ex := txOf_im im et
              subst ex
              cases i2
              exact ⟨_, zs, k, rfl, rfl, ((Pers.fzL (Same.pers s2) h1)).sq, q3 _ H2 (s1.trans s2) (.int _)⟩
          | _ => exact q3.elim
      | _ => exact q1.elim⟩
end
end PL
set_option Elab.async false
set_option linter.all false
set_option maxRecDepth 100000
set_option maxHeartbeats 1000000
/-! PL32: text * int. -/
namespace PL
open PySem PySem.Spec PyProof.Rows L2
def dMulS : D → D → R D
  | .str x, .int n => if 1 ≤ n ∧ n ≤ 1000 ∧ x.length ≤ 1000 ∧ sOk (PySem.Txt.mul x n) = true then .ok (.str (PySem.Txt.mul x n)) else .bad
  | _, _ => .bad
theorem mulOk_of {x : Str} {n : Int} (h1 : 1 ≤ n) (h2 : n ≤ 1000) (h3 : x.length ≤ 1000) : PySem.MulOk x n := by
  refine ⟨?_, fun _ _ => ?_, fun _ _ => ?_⟩
  · rw [decide_eq_false (by omega), decide_eq_false (by omega)]; rfl
  · have : (x.length : Int) ≤ (2 ^ 63 - 1) / n := by
      refine Int.le_ediv_of_mul_le (by omega) ?_
      have : (x.length : Int) * n ≤ 1000 * 1000 := Int.mul_le_mul (by omega) h2 (by omega) (by omega)
      omega
    omega
  · have : x.length * n.toNat ≤ 1000 * 1000 := Nat.mul_le_mul h3 (by omega)
    exact decide_eq_false (by rw [sizeLine_eq]; omega)
section
variable {X : Cx} {W : XK}
theorem do_mulS : DOp X W (binaryOp .Mult) dMulS rE rE rI := by
  intro pins s σ H x y v u a b Q I rx ry ha hb p
  cases a <;> cases b <;> try exact p.elim
  rename_i i j
  obtain ⟨rfl, o1⟩ := rD_str (le_ED.le _ H _ _ _ ha)
  cases rE_int hb
  by_cases hz : 1 ≤ j ∧ j ≤ 1000 ∧ i.length ≤ 1000 ∧ sOk (PySem.Txt.mul i j) = true
  · simp only [Post, PostA, dMulS, if_pos hz] at p
    obtain ⟨t, rfl⟩ := rx
    obtain ⟨t', rfl⟩ := ry
    exact PySem.SB.mul (mulOk_of hz.1 hz.2.1 hz.2.2.1) fun t' k => ⟨.str (PySem.Txt.mul i j), H, I.tok _, ⟨_, rfl⟩, p _ H (Same.refl H) (.str _ hz.2.2.2)⟩
  · simp only [Post, PostA, dMulS, if_neg hz] at p
end
end PL
set_option Elab.async false
set_option linter.all false
set_option maxRecDepth 100000
set_option maxHeartbeats 1000000
/-! PL33: word, *parts = t. -/
namespace PL
open PySem PySem.Spec PySem.W PySem.Calls PyProof.Rows L2
section
variable {prog : Program} {w : World} {A : Around} {E : Value → Shared → Prop} {s : Shared}
theorem star_items {l : Addr} {items : Array Value} {Q : List Value → Shared → Prop} (hl : IsTup s.heap l items) (hh : A.handled = none) (hn : 1 ≤ items.size) (hz : items.size ≤ 16384)
    (h : ∀ (h₂ : Heap) (tk : Nat), (∀ b o, s.heap.get? b = some o → h₂.get? b = some o) → Q (items.toList.take 1 ++ [.ref h₂.objs.size]) { s with heap := h₂.push { cls := .type "list", data := .seq (items.toList.drop 1).toArray }, toks := tk }) :
    wpAny (model prog w) A (unpackItems (.ref l) 2 (some 1)) Q E s := by
  have hlt : l ≠ s.heap.objs.size := by obtain ⟨o, ho, _⟩ := hl; exact Nat.ne_of_lt (Heap.lt_size ho)
  unfold unpackItems
  refine wpAny_bind ?_
  unfold notIterableAtAll
  refine wpAny_bind (wpAny_specialOf hl.typeIs slot_tuple_iter.lookup ?_)
  refine wpAny_pure ?_
  simp only [Bool.false_eq_true, if_false]
  refine wpAny_bind (wpAny_holding (iter_tuple hl ?_))
  refine wpAny_bind (wpAny_holding (draw_tuple hlt 1 0 _ _ ⟨_, Heap.get?_push_size _ rfl, rfl, rfl⟩ (hl.push _) (by omega) fun h₁ hit₁ hs₁ => ?_))
  have hl₁ : IsTup h₁ l items := (hl.push _).extBut hs₁.extBut hlt
  rw [Nat.zero_add] at hit₁
  have hit₁' := hit₁
  obtain ⟨oi, hoi, _⟩ := hit₁'
  have hl₁' := hl₁
  obtain ⟨ol, hol, _⟩ := hl₁'
  rw [List.drop_zero]
  have hfl : (items.toList.take 1).length = 1 := by rw [List.length_take, Array.length_toList]; omega
  rw [if_neg (show ¬ ((items.toList.take 1).length < 1) by rw [hfl]; omega)]
  refine wpAny_bind (wpAny_holding (kun_collect (s := { s with heap := h₁ }) (T := "tuple_iterator") (.inr (.inr (.inr rfl))) (Walks.tuple (A := A.in1) hh s.heap.objs.size l hlt items) (fun j u st => st.1.typeIs) (k := 1) (by omega) ⟨hit₁, hl₁⟩ (Heap.lt_size hoi) (Heap.lt_size hol) (fun h₂ tk hk => ?_) (by rw [sizeLine_eq]; omega)))
  have hrl : (items.toList.drop 1).length = items.size - 1 := by rw [List.length_drop, Array.length_toList]
  show wpAny _ _ (if (items.toList.drop 1).length < 0 then _ else _) _ _ _
  rw [if_neg (Nat.not_lt_zero _)]
  show wpAny _ _ (newList ((items.toList.drop 1).take ((items.toList.drop 1).length - 0)) >>= fun d => pure (items.toList.take 1 ++ [d] ++ (items.toList.drop 1).drop ((items.toList.drop 1).length - 0))) _ _ _
  rw [Nat.sub_zero, List.take_length, List.drop_length]
  have he : ∀ b o, s.heap.get? b = some o → h₂.get? b = some o := fun b o e => hk b o (Nat.ne_of_lt (Heap.lt_size e)) (hs₁.extBut b o (Nat.ne_of_lt (Heap.lt_size e)) (Heap.get?_push_of_some _ e))
  refine wpAny_bind (wpAny_newObj_type ?_ (by show (items.toList.drop 1).toArray.size ≤ sizeLine; rw [List.size_toArray, hrl, sizeLine_eq]; omega))
  refine wpAny_pure ?_
  rw [List.append_nil]
  exact h h₂ tk he
end
/-- word, *parts = t: what follows -/
def gStar (K : PySem.W.Frag) (i j : Nat) : TG := fun v σ H Q => ∃ a x xs, v = .ref a ∧ SqT K H a (x :: xs) ∧ xs.length ≤ 1000 ∧ ∀ D, H D = none → Q ((σ.set i (some x)).set j (some (.ref D))) (upd H D (.lst xs))
section
variable {X : Cx}
theorem pg_star {i j k : Nat} {x y : Str} {px py ps pos : Pos} (hc : X.calm = true) (hN : X.N.Nodup) (hi : X.N[i]? = some x) (hj : X.N[j]? = some y) (hx : Loc X.env.scope x) (hy : Loc X.env.scope y)
    (fx : X.fn x = true ∨ X.env.scope.names.lookup x = some .local) (fy : X.fn y = true ∨ X.env.scope.names.lookup y = some .local) :
    PG X (.Tuple [.Name x px, .Starred (.Name y py) ps] k pos) (gStar X.K i j) := by
  refine ⟨fun pins s σ H v u Q I r hw => ?_⟩
  obtain ⟨a, x0, xs, e1, hq, hl, q⟩ := hw
  subst e1
  cases r
  obtain ⟨its, rv, ht, hz⟩ := I.tuple hq
  have h2 : PGs X [.Name x px, .Name y py] (gCons (gName i) (gCons (gName j) gNil)) := pgs_cons (pg_name hN hi hx fx) (pgs_cons (pg_name hN hj hy fy) pgs_nil)
  rw [assign_Tuple]
  refine wpAny_bind (wpAny_standAt ?_)
  unfold unpack
  have e2 : (assignEach [.Name x px, .Starred (.Name y py) ps] X.env).length = 2 := rfl
  have e3 : (assignEach [.Name x px, .Starred (.Name y py) ps] X.env).findIdx? (·.1) = some 1 := rfl
  have e4 : (assignEach [.Name x px, .Starred (.Name y py) ps] X.env).map (·.2) = (assignEach [.Name x px, .Name y py] X.env).map (·.2) := rfl
  rw [e2, e3, e4]
  cases rv with
  | cons r0 rr =>
    rename_i u0 us
    have le := rr.length
    refine wpAny_bind (wpAny_holding (star_items ht (I.ok.hd hc) (by simp) (by simp; omega) fun h₂ tk hk => ?_))
    have I1 : Inv X pins σ H { s with heap := h₂, toks := tk } := I.kept hk
    have I2 := I1.lnew (t' := tk) rr (by rw [sizeLine_eq]; omega)
    have hn : H h₂.objs.size = none := I1.fresh
    refine h2.run pins _ σ _ [x0, .ref h₂.objs.size] _ Q I2 (.cons r0 (.cons rfl .nil)) ⟨_, _, rfl, ⟨_, _, rfl, rfl, q _ hn⟩⟩
def sStar (i j : Nat) (f : Env → R D) : Env → R Out := fun τ => (f τ).bind fun d => match d with
  | .tuple (a :: r) => if r.length ≤ 1000 then .ok (.nx ((τ.set i (some a)).set j (some (.list r)))) else .bad
  | _ => .bad
variable {H0 : Hp} {W : XK} {ρr : Res} {κ : Kds} {e : Expr} {f : Env → R D}
theorem ds_star {i j k : Nat} {x y : Str} {px py ps tpos pos : Pos} (hc : X.calm = true) (hN : X.N.Nodup) (hi : X.N[i]? = some x) (hj : X.N[j]? = some y) (hx : Loc X.env.scope x) (hy : Loc X.env.scope y) (he : DE X H0 W κ rI e f) (hki : i < κ.length := by decide) (hkj : j < κ.length := by decide)
    (fx : X.fn x = true ∨ X.env.scope.names.lookup x = some .local := by first | exact .inl rfl | exact .inr rfl | assumption) (fy : X.fn y = true ∨ X.env.scope.names.lookup y = some .local := by first | exact .inl rfl | exact .inr rfl | assumption)
    (hs : swapsWithSole [.Tuple [.Name x px, .Starred (.Name y py) ps] k tpos] e pos.line X.env = pure false := by rfl) (hw : swappedStores [.Tuple [.Name x px, .Starred (.Name y py) ps] k tpos] e X.env = pure none := by rfl) :
    DS X H0 W ρr κ (.Assign [.Tuple [.Name x px, .Starred (.Name y py) ps] k tpos] e pos) (sStar i j f) ((κ.set i .imm).set j .own) :=
  ⟨(ps_asg he.pe (pg_star hc hN hi hj hx hy fx fy) hs hw).cons fun D σ H ⟨τ, r, q⟩ => ⟨τ, r, PostA.imp (PostA.to (PostA.bind q) r.same) fun d qd v H1 s1 hv => by
    cases d with
    | tuple ds =>
      cases ds with
      | nil => exact qd.elim
      | cons a t =>
        by_cases hl : t.length ≤ 1000
        · simp only [if_pos hl] at qd
          cases hv with
          | tup h1 z im =>
            cases im with
            | @cons v0 vs0 _ _ i0 i1 =>
              have l1 := i1.length
              refine ⟨_, _, _, rfl, .of h1, by omega, fun D' hD => ?_⟩
              have r1 := (r.to s1).setI hki i0
              have sD : Same H1 (upd H1 D' (.lst vs0)) := same_upd hD
              exact qd _ _ ((Same.pers s1).trans (Same.pers sD)) (r1.setN sD (by simpa using hkj) hD (.lst upd_same (by rw [sizeLine_eq]; omega) (i1.mono (Same.pers sD))))
          | ftup h1 z im =>
            cases im with
            | @cons v0 vs0 _ _ i0 i1 =>
              have l1 := i1.length
              refine ⟨_, _, _, rfl, .inl (.inr ⟨_, h1⟩), by omega, fun D' hD => ?_⟩
              have r1 := (r.to s1).setI hki i0
              have sD : Same H1 (upd H1 D' (.lst vs0)) := same_upd hD
              exact qd _ _ ((Same.pers s1).trans (Same.pers sD)) (r1.setN sD (by simpa using hkj) hD (.lst upd_same (by rw [sizeLine_eq]; omega) (i1.mono (Same.pers sD))))
        · simp only [if_neg hl] at qd
          exact qd.elim
    | _ => exact qd.elim⟩⟩
end
end PL
set_option Elab.async false
set_option linter.all false
set_option maxRecDepth 100000
set_option maxHeartbeats 1000000
/-! PL34: .get of a dict of the module: text keys, ints. -/
namespace PL
open PySem PySem.Spec PyProof.Rows L2
def intOf : Value → Option Int
  | .int i _ => some i
  | _ => none
structure DctC (K : PySem.W.Frag) (w : World) (mg : Str → Option Value) (x : Str) (ents : List (Str × Int)) : Prop where
  ex : ∃ (d : Addr) (es : Array DictEntry) (n : Nat), mg x = some (.ref d) ∧ K.lookup d = some ⟨.type "dict", none, .dict es n, #[]⟩ ∧ (d == sysModules) = false ∧ es.toList.map He.keyOf = He.keysIn w.params (ents.map (·.1)) ∧ es.toList.map (fun e => intOf e.val) = ents.map fun p => some p.2
theorem find_ents {P : Params} (z : Str) : ∀ (l : List DictEntry) (ents : List (Str × Int)), l.map He.keyOf = He.keysIn P (ents.map (·.1)) → l.map (fun e => intOf e.val) = ents.map (fun p => some p.2) →
    (match ents.lookup z with
      | some i => ∃ t, (l.find? fun e => Value.isStrOf z e.key).map (·.val) = some (.int i t)
      | none => (l.find? fun e => Value.isStrOf z e.key).map (·.val) = none)
  | [], [], _, _ => rfl
  | [], _ :: _, h, _ => by cases h
  | _ :: _, [], h, _ => by cases h
  | e :: l, (k, i) :: ents, h1, h2 => by
    have h1' : He.keyOf e :: l.map He.keyOf = some (k, PyData.keyHash P k) :: He.keysIn P (ents.map (·.1)) := h1
    have h2' : intOf e.val :: l.map (fun e => intOf e.val) = some i :: ents.map fun p => some p.2 := h2
    injection h1' with a1 a2
    injection h2' with b1 b2
    have ih := find_ents z l ents a2 b2
    have hk : ∃ t, e.key = .str k t := by
      unfold He.keyOf at a1
      split at a1
      · rename_i x t q
        have h4 := Option.some.inj a1
        obtain ⟨h5, h6⟩ := Prod.mk.inj h4
        exact ⟨t, by rw [q, h5]⟩
      · cases a1
    have hv : ∃ t, e.val = .int i t := by
      unfold intOf at b1
      split at b1
      · rename_i j t q
        exact ⟨t, by rw [q, Option.some.inj b1]⟩
      · cases b1
    obtain ⟨t, hk⟩ := hk
    obtain ⟨t', hv⟩ := hv
    have e1 : Value.isStrOf z e.key = (k == z) := by rw [hk]; rfl
    rw [List.find?_cons, e1, List.lookup_cons]
    by_cases c : z = k
    · subst c
      rw [beq_self_eq_true]
      exact ⟨t', by rw [Option.map_some, hv]⟩
    · have c1 : (k == z) = false := beq_eq_false_iff_ne.mpr fun e => c e.symm
      have c2 : (z == k) = false := beq_eq_false_iff_ne.mpr c
      rw [c1, c2]
      exact ih
noncomputable def dGetC (ents : List (Str × Int)) : D → D → R D
  | .str z, d => .ok (match ents.lookup z with | some i => .int i | none => d)
  | _, _ => .bad
section
variable {X : Cx} {H0 : Hp} {W : XK} {κ : Kds} {e c : Expr} {fe fc : Env → R D} {x : Str} {p apos cpos : Pos} {ents : List (Str × Int)}
def tGetC (ents : List (Str × Int)) (te tf : TE) : TE := fun σ H Q => te σ H fun y H1 => tf σ H1 fun z H2 => ∃ s, y = .str s ∧ Q (match ents.lookup s with | some i => .int i | none => z) H2
theorem pe_getC {te tf : TE} (h : DctC X.K X.w X.mg x ents) (hg : Gl X x) (he : PE X e te) (hf : PE X c tf) (m : M2 X (.Name x p) "get" apos e c cpos) (hd : (x == ("__debug__" : Str)) = false) : PE X (.Call (.Attribute (.Name x p) "get" apos) [e, c] [] cpos) (tGetC ents te tf) := by
  obtain ⟨d, es, n, hm, hl, low, k1, k2⟩ := h.ex
  have hk := He.keysLit_of k1
  refine ⟨fun pins s σ H Q I h => ?_⟩
  have hmap := fun {s : Shared} (hK : X.K.In s.heap) => PySem.W.mapOf_K (prog := X.prog) (w := X.w) hK hl hk
  refine wpAny_Call_method m.base m.few m.line PySem.F.plainAttrs_dict PySem.F.slot_dict_get PySem.F.type_dict_get (thn ((pe_glob (v := .ref d) hg hm rfl hd).run pins s σ H (fun v H1 => v = .ref d ∧ te σ H1 fun y H1 => tf σ H1 fun z H2 => ∃ s, y = .str s ∧ Q (match ents.lookup s with | some i => .int i | none => z) H2) I ⟨rfl, h⟩) fun u s1 ⟨v, H1, I1, rx, ev, q1⟩ => ?_)
  subst ev
  obtain rfl : u = Value.ref d := rx
  refine ⟨(hmap I1.kIn).typeIs, fun b q => by cases q; exact ⟨_, I1.kIn _ _ hl, rfl⟩, ?_⟩
  rw [m.trees]
  refine Calls.callWith_builtin rfl (Calls.evalArgs_plain (Calls.spliced_cons (thn (he.run pins s1 σ H1 _ I1 q1) fun iv s2 ⟨y, H2, I2, ry, q2⟩ =>
    Calls.spliced_cons (thn (hf.run pins s2 σ H2 _ I2 q2) fun fv s3 ⟨z, H3, I3, rz, st, ey, q3⟩ => Calls.spliced_nil ?_))))
  subst ey
  obtain ⟨t, rfl⟩ := ry
  refine call_meetsIn PySem.F.slot_dict_get (hmap I3.kIn).typeIs PySem.F.entry_dict_get (PySem.F.args_dict_get_3 _ _ _) (meets_dict_get_default (strKind X.prog X.w) d (strKind_is X.prog X.w st t) low fv) ⟨_, hmap I3.kIn, ?_⟩
  have f := find_ents st es.toList ents k1 k2
  have fb : findBy Value.isStrOf es st = (es.toList.find? fun e => Value.isStrOf st e.key).map (·.val) := by
    unfold findBy
    rw [← Array.find?_toList]
  show ∃ _, _
  rw [fb]
  cases hq : ents.lookup st with
  | none =>
    rw [hq] at f q3
    rw [f]
    exact ⟨z, H3, I3.tok _, rz, q3⟩
  | some i =>
    rw [hq] at f q3
    obtain ⟨t', f⟩ := f
    rw [f]
    exact ⟨.int i, H3, I3.tok _, ⟨t', rfl⟩, q3⟩
theorem de_getC (h : DctC X.K X.w X.mg x ents) (hg : Gl X x) (he : DE X H0 W κ rI e fe) (hc : DE X H0 W κ rI c fc) (m : M2 X (.Name x p) "get" apos e c cpos := by exact ⟨rfl, rfl, rfl, rfl⟩) (hd : (x == ("__debug__" : Str)) = false := by decide) :
    DE X H0 W κ rI (.Call (.Attribute (.Name x p) "get" apos) [e, c] [] cpos) (f2 (dGetC ents) fe fc) :=
  ⟨(pe_getC h hg he.pe hc.pe m hd).cons fun σ H Q ⟨τ, r, q⟩ => ⟨τ, r, PostA.imp (PostA.bind q) fun k pk y H1 s1 hy => ⟨τ, r.to s1, PostA.imp (PostA.bind (PostA.to pk s1)) fun d pd z H2 s2 hz => by
    cases k with
    | str s =>
      cases hy
      refine ⟨s, rfl, ?_⟩
      have pd : PostA X.mg W H1 (.ok (match ents.lookup s with | some i => PyData.int i | none => d)) _ := pd
      refine pd _ H2 (s1.trans s2) ?_
      cases ents.lookup s with
      | none => exact hz
      | some i => exact .int i
    | _ => exact pd.elim⟩⟩⟩
end
def strV : Value → Option Str
  | .str z _ => some z
  | _ => none
theorem vals_of : ∀ {l : List Value} {ys : List Str}, l.map strV = ys.map some → Vals (ys.map V.str) l
  | [], [], _ => .nil
  | [], _ :: _, h => by cases h
  | _ :: _, [], h => by cases h
  | v :: l, y :: ys, h => by
    have h' : strV v :: l.map strV = some y :: ys.map some := h
    injection h' with h1 h2
    have hv : ∃ t, v = .str y t := by
      unfold strV at h1
      split at h1
      · rename_i z t
        exact ⟨t, by rw [Option.some.inj h1]⟩
      · cases h1
    obtain ⟨t, rfl⟩ := hv
    exact .cons ⟨t, rfl⟩ (vals_of h2)
theorem tupC_mk {K : PySem.W.Frag} {mg : Str → Option Value} {x : Str} {ys : List Str} {p : Addr} {dd : Option Addr} {its : Array Value} {n : Nat} {sl : Array (Option Value)} (e : mg x = some (.ref p)) (h : K.lookup p = some ⟨.type "tuple", dd, .seq its n, sl⟩)
    (v : its.toList.map strV = ys.map some) (hl : ys.length ≤ 1000) : TupC K mg x ys := by
  refine ⟨p, _, its, n, e, h, rfl, rfl, ?_, vals_of v⟩
  have := congrArg List.length v
  rw [List.length_map, List.length_map, Array.length_toList] at this
  rw [sizeLine_eq]; omega
end PL
set_option Elab.async false
set_option linter.all false
set_option maxRecDepth 100000
set_option maxHeartbeats 1000000
/-! PL35: an own dict is kept as it is from here on; for k in d. -/
namespace PL
open PySem PySem.Spec PyProof.Rows L2
def sKeepD (i : Nat) : Env → R Out := fun τ => match τ[i]? with | some (some (.dict _)) => .ok (.nx τ) | some none => .ok (.nx τ) | _ => .bad
section
variable {X : Cx} {H0 : Hp} {W : XK} {ρr : Res} {κ κ1 : Kds} {sts : List Stmt} {g : Env → R Out} {i : Nat}
theorem Rep.keepD {K : PySem.W.Frag} {H : Hp} {σ : L2.St} {τ : Env} {a : Addr} {d0 : D} {o : Obj} {u : HO} (r : Rep K H0 H κ σ τ) (hk : kd κ i = .own) (hl : i < κ.length) (e : τ[i]? = some (some d0)) (hs : σ[i]? = some (some (.ref a))) (h : H a = some u) (mu : Mut (H a)) (n0 : H0 a = none)
    (fd : Fd K (upd H a (.frz o u)) (.ref a) d0) : Rep K H0 (upd H a (.frz o u)) (κ.set i .dct) σ τ := by
  have p : Pers H (upd H a (.frz o u)) := pers_upd mu
  refine ⟨r.len, fun j d e2 k => ?_, fun j d e2 k => ?_, fun j d e2 k => ?_, fun j l d e' b hjl e1 e2 k1 k2 s1 s2 => ?_, fun c oc hc => ?_⟩
  · rw [kd_set hl] at k
    by_cases hj : i = j
    · rw [if_pos hj] at k; cases k
    · rw [if_neg hj] at k
      obtain ⟨v, v1, v2⟩ := r.imm j d e2 k
      exact ⟨v, v1, v2.mono p⟩
  · rw [kd_set hl] at k
    by_cases hj : i = j
    · subst hj
      rw [e] at e2; cases e2
      exact ⟨.ref a, hs, fd⟩
    · rw [if_neg hj] at k
      obtain ⟨v, v1, v2⟩ := r.dct j d e2 k
      exact ⟨v, v1, v2.mono p⟩
  · rw [kd_set hl] at k
    by_cases hj : i = j
    · rw [if_pos hj] at k; cases k
    · rw [if_neg hj] at k
      obtain ⟨v, v1, v2, v3⟩ := r.own j d e2 k
      have hva : v ≠ a := fun z => by subst z; exact r.sep j i d _ v (Ne.symm hj) e2 e k hk v1 hs
      exact ⟨v, v1, v2, v3.keep p (upd_ne hva)⟩
  · rw [kd_set hl] at k1 k2
    by_cases hj : i = j
    · rw [if_pos hj] at k1; cases k1
    · by_cases hl2 : i = l
      · rw [if_pos hl2] at k2; cases k2
      · rw [if_neg hj] at k1; rw [if_neg hl2] at k2
        exact r.sep j l d e' b hjl e1 e2 k1 k2 s1 s2
  · have hca : c ≠ a := fun z => by subst z; rw [n0] at hc; cases hc
    rw [upd_ne hca]; exact r.same c oc hc
theorem dss_keepD (i : Nat) (hk : kd κ i = .own) (hl : i < κ.length := by decide) (h : DSs X H0 W ρr (κ.set i .dct) sts g κ1) : DSs X H0 W ρr κ sts (sSeq (sKeepD i) g) κ1 :=
  ⟨⟨fun pins s σ H D I ⟨τ, r, q⟩ => by
    have q1 := PostA.bind q
    unfold sKeepD at q1
    split at q1
    · rename_i kvs e
      obtain ⟨a, h1, h2, h3⟩ := r.own i _ e hk
      cases h3 with
      | @dK ks es e1 e2 e3 =>
        obtain ⟨o, I2⟩ := I.lock e1 trivial
        have mu : Mut (H a) := by rw [e1]; trivial
        have p : Pers H (upd H a (.frz o (.dK ks))) := pers_upd mu
        exact h.pss.run pins s σ _ D I2 ⟨τ, r.keepD hk hl e h1 e1 mu h2 (.dK upd_same e2 (e3.mono p)), PostA.imp q1 fun o qo => PostO.pers qo p⟩
      | @dT ks es e1 e2 e3 =>
        obtain ⟨o, I2⟩ := I.lock e1 trivial
        have mu : Mut (H a) := by rw [e1]; trivial
        have p : Pers H (upd H a (.frz o (.dT ks))) := pers_upd mu
        exact h.pss.run pins s σ _ D I2 ⟨τ, r.keepD hk hl e h1 e1 mu h2 (.dT upd_same e2 (e3.mono p)), PostA.imp q1 fun o qo => PostO.pers qo p⟩
    · rename_i e
      exact h.pss.run pins s σ H D I ⟨τ, r.kindN .dct e, q1⟩
    · exact q1.elim⟩⟩
end
/-- the keys that are walked -/
def shortK : D → Bool
  | .tuple xs => decide (xs.length ≤ 1000)
  | _ => true
def dKeysL : D → R (List D)
  | .dict kvs => if kvs.length ≤ 1000 ∧ kvs.all (fun p => shortK p.1) = true then (if markT kvs = true then .ok (kvs.tail.map (·.1)) else .ok (kvs.map (·.1))) else .bad
  | _ => .bad
def iKeysD (f : Env → R D) : Env → R (List D) := fun τ => (f τ).bind dKeysL
theorem im_key_new {K : PySem.W.Frag} {H : Hp} {k : Key} (h : kOk k) : Im K H (kV k) (keyD k) := by
  cases k with
  | inl i => exact .int i
  | inr x => exact .str x h
theorem imAll_key {K : PySem.W.Frag} {H : Hp} : ∀ {ks : List Key}, (∀ k ∈ ks, kOk k) → ImAll K H (ks.map kV) (ks.map keyD)
  | [], _ => .nil
  | k :: ks, h => .cons (im_key_new (h k (.head _))) (imAll_key fun x hx => h x (.tail _ hx))
theorem markK {kvs : List (Key × V)} {ds : List D} : markT ((kvs.map fun p => keyD p.1).zip ds) = false := by
  cases kvs with
  | nil => rfl
  | cons p r =>
    cases ds with
    | nil => rfl
    | cons d t =>
      obtain ⟨k, v⟩ := p
      cases k <;> rfl
section
variable {K : PySem.W.Frag} {H : Hp} {a : Addr} {o : Obj}
theorem itOk_keysK {kvs : List (Key × V)} (h : H a = some (.frz o (.dK kvs))) (ok : ∀ p ∈ kvs, kOk p.1) (hl : kvs.length ≤ sizeLine) : ItOk K (Itk a o kvs) H (kvs.map fun p => keyD p.1) where
  go := fun H2 j p hj => ⟨p.frz _ _ _ h, by simpa using hj⟩
  stop := fun H2 j p hj => ⟨p.frz _ _ _ h, by simpa using hj⟩
  yld := fun H2 j x H3 d p hy hd => by
    obtain ⟨rfl, k, v, e, rfl⟩ := hy
    rw [List.getElem?_map, e] at hd
    cases hd
    exact ⟨Same.refl _, im_key_new (ok _ (List.mem_of_getElem? e))⟩
  len := by rw [List.length_map]; exact hl
theorem itOk_keysT {kvs : List (List Key × V)} (h : H a = some (.frz o (.dT kvs))) (ok : ∀ p ∈ kvs, ∀ k ∈ p.1, kOk k) (hl : kvs.length ≤ sizeLine) (hs : ∀ p ∈ kvs, p.1.length ≤ sizeLine) : ItOk K (Itkt a o kvs) H (kvs.map fun p => .tuple (p.1.map keyD)) where
  go := fun H2 j p hj => ⟨p.frz _ _ _ h, by simpa using hj⟩
  stop := fun H2 j p hj => ⟨p.frz _ _ _ h, by simpa using hj⟩
  yld := fun H2 j x H3 d p hy hd => by
    obtain ⟨rfl, k, v, q, e, rfl, hq⟩ := hy
    rw [List.getElem?_map, e] at hd
    cases hd
    have m := List.mem_of_getElem? e
    exact ⟨Same.refl _, .tup hq (by rw [List.length_map]; exact hs _ m) (imAll_key (ok _ m))⟩
  len := by rw [List.length_map]; exact hl
end
section
variable {X : Cx} {H0 : Hp} {W : XK} {κ : Kds} {tg e : Expr} {f : Env → R D}
theorem zipm_fst {α β γ : Type} (h : α → γ) : ∀ {xs : List α} {ys : List β}, xs.length = ys.length → ((xs.map h).zip ys).map (·.1) = xs.map h := fun {xs ys} hl => by
  rw [List.map_fst_zip (by rw [List.length_map]; omega)]
/-- for k in d -/
theorem di_keys (h : DE X H0 W κ rF e f) : DI X H0 W κ tg e (iKeysD f) :=
  ⟨(pi_keys h.pe).cons fun σ H Q ⟨τ, r, q⟩ => ⟨τ, r, PostA.imp (PostA.bind q) fun d pd v H1 s1 hv => by
    cases hv with
    | lst h1 z i => exact pd.elim
    | bk h1 i z => exact pd.elim
    | @dK a o kvs ds h1 ok i =>
      have hl : kvs.length = ds.length := by have := i.length; simpa using this
      refine ⟨a, o, rfl, .inl ⟨kvs, h1, ?_⟩⟩
      simp only [dKeysL] at pd
      split at pd
      · rename_i c
        rw [markK, if_neg (by decide), zipm_fst _ hl] at pd
        have lz : kvs.length ≤ sizeLine := by
          have := c.1
          rw [List.length_zip, List.length_map] at this
          rw [sizeLine_eq]; omega
        exact pd _ H1 s1 (itOk_keysK h1 ok lz)
      · exact pd.elim
    | @dT a o kvs ds h1 ok i =>
      have hl : kvs.length = ds.length := by have := i.length; simpa using this
      refine ⟨a, o, rfl, .inr ⟨kvs, h1, ?_⟩⟩
      simp only [dKeysL] at pd
      split at pd
      · rename_i c
        have em : markT ((PyData.none, PyData.none) :: (kvs.map fun p => PyData.tuple (p.1.map keyD)).zip ds) = true := rfl
        rw [em, if_pos rfl, List.tail_cons, zipm_fst _ hl] at pd
        have lz : kvs.length ≤ sizeLine := by
          have := c.1
          rw [List.length_cons, List.length_zip, List.length_map] at this
          rw [sizeLine_eq]; omega
        refine pd _ H1 s1 (itOk_keysT h1 ok lz fun p hp => ?_)
        have c2 := c.2
        rw [List.all_cons, Bool.and_eq_true] at c2
        have hm : PyData.tuple (p.1.map keyD) ∈ ((kvs.map fun p => PyData.tuple (p.1.map keyD)).zip ds).map (·.1) := by
          rw [zipm_fst _ hl]; exact List.mem_map.mpr ⟨p, hp, rfl⟩
        obtain ⟨q, hq, eq⟩ := List.mem_map.mp hm
        have := List.all_eq_true.mp c2.2 q hq
        rw [eq] at this
        have l := of_decide_eq_true this
        rw [List.length_map] at l
        rw [sizeLine_eq]; omega
      · exact pd.elim⟩⟩
end
end PL
set_option Elab.async false
set_option linter.all false
set_option maxRecDepth 100000
set_option maxHeartbeats 2000000
/-! PL36: {k: v for .. for ..}. -/
namespace PL
open PySem PySem.Spec PyProof.Rows L2
theorem turn2D_out (kx vx t0 i0 t1 i1 : Expr) (ifs0 ifs1 : List Expr) (scope : Scope) (pos : Pos) (it acc : Value) (env : PySem.Env) :
    compTurn (.DictComp kx vx [⟨t0, i0, ifs0, 0⟩, ⟨t1, i1, ifs1, 0⟩] scope pos) 0 it acc env = (do
      standAt i0.pos
      match ← pyNext it with
      | none => pure (.done .next)
      | some v =>
        letOwnedTupleGo t0 it v
        assign t0 env v
        let mut ok := true
        for c in ifs0 do
          if ok then ok ← isTrue c env (eval c env)
        if ok then
          let x ← eval i1 env
          standAt i1.pos
          let x ← foldedSetIterable i1 env x
          let _ ← runOwn (.compStart (.DictComp kx vx [⟨t0, i0, ifs0, 0⟩, ⟨t1, i1, ifs1, 0⟩] scope pos) 1 (← holding [x] (pyIter x)) acc env) env
        again (.compLoop (.DictComp kx vx [⟨t0, i0, ifs0, 0⟩, ⟨t1, i1, ifs1, 0⟩] scope pos) 0 it acc env)) := by rfl
theorem turn2D_in (kx vx t0 i0 t1 i1 : Expr) (ifs0 ifs1 : List Expr) (scope : Scope) (pos : Pos) (it : Value) (D : Addr) (env : PySem.Env) :
    compTurn (.DictComp kx vx [⟨t0, i0, ifs0, 0⟩, ⟨t1, i1, ifs1, 0⟩] scope pos) 1 it (.ref D) env = (do
      standAt i1.pos
      match ← pyNext it with
      | none => pure (.done .next)
      | some v =>
        letOwnedTupleGo t1 it v
        assign t1 env v
        let mut ok := true
        for c in ifs1 do
          if ok then ok ← isTrue c env (eval c env)
        if ok then
          (do
            let kv ← eval kx env
            let vv ← holding [kv] (eval vx env)
            standAt { kx.pos with endLine := vx.pos.endLine, endCol := vx.pos.endCol }
            holding [kv, vv] (dictSet D kv vv))
        again (.compLoop (.DictComp kx vx [⟨t0, i0, ifs0, 0⟩, ⟨t1, i1, ifs1, 0⟩] scope pos) 1 it (.ref D) env)) := by rfl
/-- what a kept turn of the first clause does: the second's whole loop -/
def act2 (P : Program) (w : World) (A : Around) (e i1 : Expr) : Addr → PySem.Env → (Value → Shared → Prop) → (Shared → Prop) → Shared → Prop := fun D env NE G s =>
  wpAny (model P w) A (eval i1 env) (fun x s4 => wpAny (model P w) A (pyIter x) (fun it1 s5 => codeAny (model P w) A (.compStart e 1 it1 (.ref D) env) (fun r s' => match r with
    | .ok _ => G s'
    | .error _ => False) s5) NE s4) NE s
section
variable {P : Program} {w : World} {A : Around} {kx vx t0 i0 t1 i1 : Expr} {ifs0 ifs1 : List Expr} {scope : Scope} {pos : Pos}
theorem loop2D_out (hs : ∀ env x, foldedSetIterable i1 env x = pure x) : LoopBy P w A (.DictComp kx vx [⟨t0, i0, ifs0, 0⟩, ⟨t1, i1, ifs1, 0⟩] scope pos) t0 i0 ifs0 (act2 P w A (.DictComp kx vx [⟨t0, i0, ifs0, 0⟩, ⟨t1, i1, ifs1, 0⟩] scope pos) i1) := by
  intro R s it D env I turn n h
  refine codeAny_loop rfl I (fun n s hI => ?_) n h
  show wpAny _ A ((compTurn (.DictComp kx vx [⟨t0, i0, ifs0, 0⟩, ⟨t1, i1, ifs1, 0⟩] scope pos) 0 it (.ref D) env).onRaise (fun x => do noteFrame x env; theTreesLotGoes x)) _ _ s
  refine wpAny_noted ?_
  rw [turn2D_out]
  refine wpAny_bind (wpAny_standAt (wpAny_bind (wpAny_mono (turn n s hI) (fun r s₁ h₁ => ?_) fun _ _ h' => h')))
  cases r with
  | none => exact wpAny_pure h₁
  | some v =>
    refine wpAny_bind (wpAny_mono h₁ (fun _ s₁' h₁' => ?_) fun _ _ h' => h')
    refine wpAny_bind (wpAny_mono h₁' (fun _ s₂ h₂ => wpAny_bind (wpAny_mono h₂ (fun ok s₃ h₃ => ?_) fun _ _ h' => h')) fun _ _ h' => h')
    cases ok with
    | false => exact wpAny_pure ⟨rfl, h₃⟩
    | true =>
      refine wpAny_bind (wpAny_mono h₃ (fun x s₄ h₄ => ?_) fun _ _ h' => h')
      refine wpAny_bind (wpAny_standAt (wpAny_bind (wpAny_of_eq (hs env x) (wpAny_bind (wpAny_holding (wpAny_mono h₄ (fun it1 s₅ h₅ => ?_) fun _ _ h' => h'))))))
      refine wpAny_bind (wpAny_runOwn ?_)
      rw [Around.mark_none]
      refine codeAny_mono h₅ fun r s' hr => ?_
      cases r with
      | ok f =>
        first
          | exact wpAny_pure ⟨rfl, hr⟩
          | exact wpAny_bind (wpAny_pure (wpAny_pure ⟨rfl, hr⟩))
      | error e => exact hr.elim
theorem loop2D_in {R : Result → Shared → Prop} {s : Shared} {it : Value} {D : Addr} {env : PySem.Env} (I : Nat → Shared → Prop)
    (turn : ∀ n s, I n s → wpAny (model P w) A (pyNext it) (fun r s1 => match r with
      | none => R (.ok .next) s1
      | some u => turnAt (model P w) A env t1 it ifs1 u (notedBy (model P w) A env fun x s' => R (.error x) s') (actD P w A kx vx D env (notedBy (model P w) A env fun x s' => R (.error x) s')) (fun s' => ∃ m, m < n ∧ I m s') s1) (notedBy (model P w) A env fun x s' => R (.error x) s') s)
    (n : Nat) (h : I n s) : codeAny (model P w) A (.compLoop (.DictComp kx vx [⟨t0, i0, ifs0, 0⟩, ⟨t1, i1, ifs1, 0⟩] scope pos) 1 it (.ref D) env) R s := by
  refine codeAny_loop rfl I (fun n s hI => ?_) n h
  show wpAny _ A ((compTurn (.DictComp kx vx [⟨t0, i0, ifs0, 0⟩, ⟨t1, i1, ifs1, 0⟩] scope pos) 1 it (.ref D) env).onRaise (fun x => do noteFrame x env; theTreesLotGoes x)) _ _ s
  refine wpAny_noted ?_
  rw [turn2D_in]
  refine wpAny_bind (wpAny_standAt (wpAny_bind (wpAny_mono (turn n s hI) (fun r s₁ h₁ => ?_) fun _ _ h' => h')))
  cases r with
  | none => exact wpAny_pure h₁
  | some v =>
    refine wpAny_bind (wpAny_mono h₁ (fun _ s₁' h₁' => ?_) fun _ _ h' => h')
    refine wpAny_bind (wpAny_mono h₁' (fun _ s₂ h₂ => wpAny_bind (wpAny_mono h₂ (fun ok s₃ h₃ => ?_) fun _ _ h' => h')) fun _ _ h' => h')
    cases ok with
    | false => exact wpAny_pure ⟨rfl, h₃⟩
    | true =>
      exact wpAny_bind (wpAny_bind (wpAny_mono h₃ (fun kv s₄ h₄ => wpAny_bind (wpAny_holding (wpAny_mono h₄ (fun vv s₅ h₅ => wpAny_bind (wpAny_standAt (wpAny_holding (wpAny_mono h₅ (fun _ s₆ h₆ => wpAny_pure ⟨rfl, h₆⟩) fun _ _ h' => h')))) fun _ _ h' => h'))) fun _ _ h' => h'))
theorem start2D {R : Result → Shared → Prop} {s : Shared} {it acc : Value} {env : PySem.Env} (h0 : codeAny (model P w) A (.compLoop (.DictComp kx vx [⟨t0, i0, ifs0, 0⟩, ⟨t1, i1, ifs1, 0⟩] scope pos) 1 it acc env) R s)
    (h : wpAny (model P w) A (pyIter it) (fun it' s' => codeAny (model P w) A (.compLoop (.DictComp kx vx [⟨t0, i0, ifs0, 0⟩, ⟨t1, i1, ifs1, 0⟩] scope pos) 1 it' acc env) R s')
      (notedBy (model P w) A env fun x s' => R (.error x) s') s) :
    codeAny (model P w) A (.compStart (.DictComp kx vx [⟨t0, i0, ifs0, 0⟩, ⟨t1, i1, ifs1, 0⟩] scope pos) 1 it acc env) R s := by
  refine codeAny_of_tree ?_
  show wpAny _ _ ((compStart (.DictComp kx vx [⟨t0, i0, ifs0, 0⟩, ⟨t1, i1, ifs1, 0⟩] scope pos) 1 it acc env).onRaise (fun x => do noteFrame x env; standAt theWindowsPlace)) _ _ s
  refine wpAny_notedAt ?_
  unfold compStart
  show wpAny _ _ (ask >>= _) _ _ s
  refine wpAny_bind (wpAny_askSetting (wpAny_ite ?_))
  split
  · first
      | exact wpAny_bind (wpAny_pure (wpAny_pure (And.intro rfl h0)))
      | exact wpAny_pure (And.intro rfl h0)
  · first
      | exact wpAny_bind (wpAny_rule (wpAny_bind (wpAny_standAt (wpAny_bind (wpAny_mono h (fun it' s' h' => wpAny_pure (And.intro rfl h')) fun _ _ x => x)))))
      | (refine wpAny_bind (wpAny_rule ?_); show wpAny _ _ (standAt i1.pos >>= _) _ _ s; exact wpAny_bind (wpAny_standAt (wpAny_bind (wpAny_mono h (fun it' s' h' => wpAny_pure (And.intro rfl h')) fun _ _ x => x))))
end
section
variable {X : Cx}
theorem gc_core2 {pins : List (Addr × Obj)} {s : Shared} {σ : L2.St} {H : Hp} {Q : VK} {e tg iter : Expr} {ifs : List Expr} {scope : Scope} {own : List (Str × Nat)} {pos : Pos} {wi : TI} {g : TG} {tt : TT} {ta : Addr → L2.St → Hp → (Hp → Prop) → Prop} {U0 : Addr → HO} {O : Obj} {mk : Sem Value}
    {act : Addr → PySem.Env → (Value → Shared → Prop) → (Shared → Prop) → Shared → Prop} {rest : List Comprehension} {use : Option (Value → Sem Unit)} {Qf : Value → Shared → Prop}
    (hcl : clausesOf e = ⟨tg, iter, ifs, 0⟩ :: rest) (hloop : LoopBy X.prog X.w X.A e tg iter ifs act) (hstart : StartBy X.prog X.w X.A e)
    (hmk : ∀ (s : Shared) (Qv : Value → Shared → Prop) (Ev : Value → Shared → Prop), Qv (.ref s.heap.objs.size) { s with heap := s.heap.push O } → wpAny (model X.prog X.w) X.A mk Qv Ev s)
    (hO : ∀ (H : Hp) (h : Heap), sysModules < h.objs.size → ObjOk X.prog X.w H (h.push O) h.objs.size (U0 h.objs.size))
    (hc : X.calm = true) (hN : X.N.Nodup) (I : Inv X pins σ H s) (hi : PI X tg iter wi) (ok : BlkOk X.N X.env.scope scope own)
    (hg : ∀ (s : Shared) (H : Hp) (C : Addr) (cl : List (Str × Addr)) (fp : List Addr), PG (X.blk s H scope (compEnvC scope cl C X.env) fp) tg g)
    (ht : ∀ (s : Shared) (H : Hp) (C : Addr) (cl : List (Str × Addr)) (fp : List Addr), PTs (X.blk s H scope (compEnvC scope cl C X.env) fp) ifs tt)
    (ha : ∀ (s : Shared) (H : Hp) (C : Addr) (cl : List (Str × Addr)) (fp : List Addr) (D : Addr) (pins : List (Addr × Obj)) (s1 : Shared) (σ1 : L2.St) (H1 : Hp) (Nx : Hp → Prop) (NE : Value → Shared → Prop) (G : Shared → Prop),
      Inv (X.blk s H scope (compEnvC scope cl C X.env) fp) pins σ1 H1 s1 → ta D σ1 H1 Nx → (∀ s2 H2 σ2, Inv (X.blk s H scope (compEnvC scope cl C X.env) fp) pins σ2 H2 s2 → σ2.length = σ1.length → (∀ (j : Nat) v, (wipe σ1 (own.map (·.2)))[j]? = some (some v) → σ2[j]? = some (some v)) → Nx H2 → G s2) → act D (compEnvC scope cl C X.env) NE G s1)
    (hs : ∀ x, foldedSetIterable iter X.env x = pure x) (h : tGc wi g tt ta U0 (own.map (·.2)) σ H Q)
    (hend : ∀ D C s' m H', Inv X pins σ H' s' → Q (.ref D) H' → s'.heap.Ns C m → FpOk X pins H' C → compPost (model X.prog X.w) X.A X.xe use Qf (.ref D) C (.ok .next) s') :
    wpAny (model X.prog X.w) X.A (comprehension e scope X.env pos mk false (eval iter X.env) use) Qf X.xe s := by
  have cells : ∀ y ∈ scope.names, y.2 = .free → ∃ c, X.env.cells.lookup y.1 = some c := fun y hy z => (ok.free y hy z).elim (fun k => I.ok.has _ (.inl k)) fun k => I.ok.has _ (.inr k)
  refine wpAny_comprehension_free hcl hs (closure_ok cells) ok.kind (fun y hy z => (ok.uniq y hy).trans (by rw [z])) ?_
  refine thn (hi.run pins s σ H _ I h) fun _ sA kA => thn kA fun _ s2 ⟨it, fp, tn, J, H2, e0, I2, T, st2, f2, q⟩ => ?_
  subst e0
  refine hmk _ _ _ (newEnv_comp ?_)
  obtain ⟨D, eD⟩ : ∃ D, D = s2.heap.objs.size := ⟨_, rfl⟩
  have free2 : H2 D = none := I2.hok.fresh (by rw [eD]; exact Nat.le_refl _)
  obtain ⟨W, ⟨m0, w0⟩, turn⟩ := q D free2
  have grow : ∀ (b : Addr) (o : Obj), s2.heap.get? b = some o → (s2.heap.push O).get? b = some o := fun _ _ z => Heap.get?_push_of_some _ z
  -- the gatherer stands
  have Inew : Inv X pins σ (upd H2 D (U0 D)) { s2 with heap := s2.heap.push O } := I2.laid (t' := s2.toks) grow (by rw [eD]; exact Nat.le_refl _) (by rw [eD]; exact hO _ _ I2.big)
  rw [← eD]
  obtain ⟨s3, e3⟩ : ∃ s3 : Shared, s3 = { s2 with heap := s2.heap.push O } := ⟨_, rfl⟩
  rw [← e3] at Inew
  have h3 : s3.heap = s2.heap.push O := by rw [e3]
  have small : ∀ b ∈ fp, b < D := fun b hb => by obtain ⟨o, z, _⟩ := T.obj _ _ st2 b hb; rw [eD]; exact Heap.lt_size z
  have f3 : ∀ b ∈ fp, FpOk X pins (upd H2 D (U0 D)) b ∧ b < s3.heap.objs.size := fun b hb => by
    obtain ⟨z1, z2⟩ := f2 b hb
    refine ⟨⟨by rw [upd_ne (Nat.ne_of_lt (small b hb))]; exact z1, z2⟩, ?_⟩
    rw [h3, Heap.size_push, ← eD]
    exact Nat.lt_succ_of_lt (small b hb)
  have st3 : tn 0 s3.heap := T.keep _ _ _ st2 fun b _ o z => by rw [h3]; exact grow b o z
  have Ib := block_start Inew ok hN f3
  obtain ⟨C, eC⟩ : ∃ C, C = s3.heap.objs.size := ⟨_, rfl⟩
  obtain ⟨cl, ecl⟩ : ∃ cl, cl = cellsFrom (s3.heap.objs.size + 1) scope.names (cloFrom X.env.cells scope.names []) := ⟨_, rfl⟩
  obtain ⟨H3, eH⟩ : ∃ H3, H3 = upd H2 D (U0 D) := ⟨_, rfl⟩
  obtain ⟨s4, e4⟩ : ∃ s4 : Shared, s4 = { s3 with heap := pushCells (s3.heap.push { cls := .type "dict", data := .dict #[] }) scope.names } := ⟨_, rfl⟩
  rw [← eH, ← ecl, ← eC, ← e4] at Ib
  have go : codeAny (model X.prog X.w) X.A (.compStart e 0 (.ref it) (.ref D) (compEnvC scope cl C X.env)) (compPost (model X.prog X.w) X.A X.xe use Qf (.ref D) C) s4 := by
    have tn4 : tn 0 s4.heap := T.keep _ _ _ st3 fun b _ o z => by rw [e4]; exact pushCells_keeps _ _ _ _ (Heap.get?_push_of_some _ z)
    rw [← eH] at f3 w0 Inew
    have nof : ∀ b ∈ fp, H3 b = none := fun b hb => (f3 b hb).1.1
    have held : ∀ {σ' : L2.St} {H' : Hp} {s' : Shared}, Inv (X.blk s3 H3 scope (compEnvC scope cl C X.env) fp) [] σ' H' s' → (∀ b ∈ fp, H' b = none) → ∀ b ∈ fp, FpOk (X.blk s3 H3 scope (compEnvC scope cl C X.env) fp) [] H' b := fun I' n b hb => by
      have k := I'.ok.exf b hb
      exact ⟨n b hb, k.1, I'.ok.exfs b hb, .inl hb, fun x c => k.2 x c, fun p hp => nomatch (show p ∈ ([] : List (Addr × Obj)) from by simpa using hp)⟩
    have loop := hloop (compPost (model X.prog X.w) X.A X.xe use Qf (.ref D) C) s4 (.ref it) D (compEnvC scope cl C X.env)
      (fun n s' => ∃ i H', Inv (X.blk s3 H3 scope (compEnvC scope cl C X.env) fp) [] (wipe σ (own.map (·.2))) H' s' ∧ tn i s'.heap ∧ (∀ b ∈ fp, H' b = none) ∧ W i n H')
      (by
        rintro n s5 ⟨i, H5, I5, t5, n5, w5⟩
        rcases turn i n H5 w5 with ⟨stop, qq⟩ | ⟨more, Nx, hNx, step⟩
        · refine thnF (T.done (X.blk s3 H3 scope (compEnvC scope cl C X.env) fp) rfl rfl rfl hc i [] s5 _ H5 (fun _ _ => False) I5 (held I5 n5) t5 stop) fun r s6 hr6 => ?_
          obtain ⟨rfl, I6⟩ := hr6
          have back : Inv X pins σ H5 s6 := Inew.call' (ch := fp) I6.os I6.base I6.hok I6.bare fun b hb => by
            have z := (f3 b hb).1.2
            exact ⟨z.2.2.1, z.1, z.2.2.2.1, z.2.2.2.2⟩
          obtain ⟨m, hn, _⟩ := I6.loc
          exact hend D C s6 m H5 back qq hn (Inew.fpOk (by rw [eC]; exact Nat.le_refl _) I6.free)
        · refine thnF (T.item (X.blk s3 H3 scope (compEnvC scope cl C X.env) fp) rfl rfl rfl hc i [] s5 _ H5 (fun _ _ => False) I5 (held I5 n5) t5 more) fun r s6 hr6 => ?_
          obtain ⟨u, rfl, h6⟩ := hr6
          refine thnF h6 fun _ s7 ⟨x, H7, I7, r7, y7, t7, n7⟩ => ?_
          have Ip := I7.pinned (held I7 n7) (T.obj _ _ t7)
          refine thnF ((hg s3 H3 C cl fp).run _ s7 _ H7 x u _ Ip r7 (step x H7 y7)) fun _ s8 ⟨σ8, H8, I8, w8, q8⟩ => ?_
          refine thnF ((ht s3 H3 C cl fp).run _ s8 σ8 H8 _ I8 q8) fun b s9 ⟨H9, I9, q9⟩ => ?_
          have nextTurn : ∀ s' H' σ', Inv (X.blk s3 H3 scope (compEnvC scope cl C X.env) fp) ([] ++ pinsAt fp s7.heap) σ' H' s' → σ'.length = σ8.length → (∀ (j : Nat) v, (wipe σ8 (own.map (·.2)))[j]? = some (some v) → σ'[j]? = some (some v)) → Nx H' → ∃ m, m < n ∧ ∃ i H', Inv (X.blk s3 H3 scope (compEnvC scope cl C X.env) fp) [] (wipe σ (own.map (·.2))) H' s' ∧ tn i s'.heap ∧ (∀ b ∈ fp, H' b = none) ∧ W i m H' := fun s' H' σ' I' hl hk nx => by
            obtain ⟨m', hm, w'⟩ := hNx H' nx
            have pinned : ∀ b ∈ fp, ∀ o, s7.heap.get? b = some o → s'.heap.get? b = some o ∧ H' b = none := fun b hb o z =>
              have k := I'.pin (b, o) (List.mem_append_right _ (List.mem_append_right _ (mem_pinsAt hb z)))
              ⟨k.1, k.2.1⟩
            refine ⟨m', hm, i + 1, H', (I'.unpinned (pins := [])).weak (by rw [hl, wipe_length, ← wipe_length σ8 (own.map (·.2)), w8, wipe_length]) (fun j v z => ?_), T.keep _ _ _ t7 fun b hb o z => (pinned b hb o z).1, fun b hb => ?_, w'⟩
            · rw [← w8] at z; exact hk j v z
            · obtain ⟨o, z, _⟩ := T.obj _ _ t7 b hb; exact (pinned b hb o z).2
          cases b with
          | false => exact nextTurn _ _ _ I9 rfl (fun j v z => (wipe_some z).1) q9
          | true => exact ha s3 H3 C cl fp D _ s9 σ8 H9 Nx _ _ I9 q9 nextTurn)
      m0 ⟨0, H3, Ib, tn4, nof, w0⟩
    exact hstart _ _ _ _ _ loop (T.self X.A 0 _ _ _ tn4 loop)
  rw [eC, ecl, e4] at go
  have fin := go
  rw [e3] at fin
  exact fin
/-- the second clause's loop asks: behind its store and tests, ta -/
def ta2 (wi1 : TI) (g1 : TG) (tt1 : TT) (ta : Addr → L2.St → Hp → (Hp → Prop) → Prop) (vs1 : List Nat) : Addr → L2.St → Hp → (Hp → Prop) → Prop := fun D σ H Nx =>
  wi1 σ H fun J1 H4 => ∃ W1 : Nat → Nat → Hp → Prop, (∃ m, W1 0 m H4) ∧ ∀ j k H, W1 j k H →
    (J1.stop j H ∧ Nx H) ∨ (J1.go j H ∧ ∃ Nx1 : Hp → Prop, (∀ H', Nx1 H' → ∃ k', k' < k ∧ W1 (j + 1) k' H') ∧ ∀ x H', J1.yld j H x H' → g1 x (wipe σ vs1) H' fun σ3 H5 => wipe σ3 vs1 = wipe σ vs1 ∧ tt1 σ3 H5 fun b H6 => if b = true then ta D σ3 H6 Nx1 else Nx1 H6)
theorem act_2 {kx vx t0 i0 t1 i1 : Expr} {ifs0 ifs1 : List Expr} {scope : Scope} {pos : Pos} {wi1 : TI} {g1 : TG} {tt1 : TT} {tk tv : TE} {vs vs1 : List Nat} {D : Addr} {pins : List (Addr × Obj)} {s1 : Shared} {σ1 : L2.St} {H1 : Hp} {Nx : Hp → Prop} {NE : Value → Shared → Prop} {G : Shared → Prop}
    (hc : X.calm = true) (hi1 : PI X t1 i1 wi1) (hg1 : PG X t1 g1) (ht1 : PTs X ifs1 tt1) (hk : PE X kx tk) (he : PE X vx tv) (hxe : X.xe = fun _ _ => False) (hv : ∀ i ∈ vs1, i ∈ vs)
    (I1 : Inv X pins σ1 H1 s1) (a : ta2 wi1 g1 tt1 (taK tk tv) vs1 D σ1 H1 Nx)
    (hG : ∀ s2 H2 σ2, Inv X pins σ2 H2 s2 → σ2.length = σ1.length → (∀ (j : Nat) v, (wipe σ1 vs)[j]? = some (some v) → σ2[j]? = some (some v)) → Nx H2 → G s2) :
    act2 X.prog X.w X.A (.DictComp kx vx [⟨t0, i0, ifs0, 0⟩, ⟨t1, i1, ifs1, 0⟩] scope pos) i1 D X.env NE G s1 := by
  have hi1' := fun pins s σ H Q I h => hi1.run pins s σ H Q I h
  have hg1' := fun pins s σ H x u Q I r h => hg1.run pins s σ H x u Q I r h
  have ht1' := fun pins s σ H Q I h => ht1.run pins s σ H Q I h
  rw [hxe] at hi1' hg1' ht1'
  refine thnF (hi1' pins s1 σ1 H1 _ I1 a) fun xv s10 hx => thnF hx fun itv s11 h11 => ?_
  obtain ⟨it1, fp1, tn1, J1, H11, e1, I11, T1, st11, f11, W1, ⟨m1, w1⟩, turn1⟩ := h11
  subst e1
  have stat1 : ∀ {H' : Hp}, (∀ b ∈ fp1, H' b = none) → ∀ b ∈ fp1, FpOk X pins H' b := fun hn b hb => ⟨hn b hb, (f11 b hb).2⟩
  have loop1 : codeAny (model X.prog X.w) X.A (.compLoop (.DictComp kx vx [⟨t0, i0, ifs0, 0⟩, ⟨t1, i1, ifs1, 0⟩] scope pos) 1 (.ref it1) (.ref D) X.env) (fun r s' => match r with
      | .ok _ => G s'
      | .error _ => False) s11 := by
    refine loop2D_in (fun k s' => ∃ j H', Inv X pins (wipe σ1 vs1) H' s' ∧ tn1 j s'.heap ∧ (∀ b ∈ fp1, H' b = none) ∧ W1 j k H') ?_ m1 ⟨0, H11, I11.weak (wipe_length _ _) (fun j v e => (wipe_some e).1), st11, fun b hb => (f11 b hb).1, w1⟩
    rintro k s12 ⟨j, H12, I12, st12, n12, w12⟩
    rcases turn1 j k H12 w12 with ⟨stop1, nx1⟩ | ⟨go1, Nx1, hNx1, step1⟩
    · refine thnF (T1.done X rfl rfl rfl hc j _ s12 (wipe σ1 vs1) H12 (fun _ _ => False) I12 (stat1 n12) st12 stop1) fun r s13 ⟨hr, I13⟩ => ?_
      subst hr
      exact hG _ _ _ I13 (wipe_length _ _) (fun j v z => by
        obtain ⟨e1, e2⟩ := wipe_some z
        rw [wipe_out fun z => e2 (hv j z)]; exact e1) nx1
    · refine thnF (T1.item X rfl rfl rfl hc j _ s12 (wipe σ1 vs1) H12 (fun _ _ => False) I12 (stat1 n12) st12 go1) fun r s13 ⟨u1, hr, h13⟩ => ?_
      subst hr
      refine thnF h13 fun _ s14 ⟨x1, H14, I14, r14, y14, st14, n14⟩ => ?_
      have Ip := I14.pinned (stat1 n14) (T1.obj _ _ st14)
      refine thnF (hg1' _ s14 (wipe σ1 vs1) H14 x1 u1 _ Ip r14 (step1 x1 H14 y14)) fun _ s15 ⟨σ15, H15, I15, hw15, q15⟩ => ?_
      refine thnF (ht1' _ s15 σ15 H15 _ I15 q15) fun b1 s16 ⟨H16, I16, q16⟩ => ?_
      have fin1 : ∀ s' H', Inv X (pins ++ pinsAt fp1 s14.heap) σ15 H' s' → Nx1 H' → ∃ m, m < k ∧ ∃ j H', Inv X pins (wipe σ1 vs1) H' s' ∧ tn1 j s'.heap ∧ (∀ b ∈ fp1, H' b = none) ∧ W1 j m H' := fun s' H' I' nx => by
        obtain ⟨m', hm, w'⟩ := hNx1 H' nx
        have pinned : ∀ b ∈ fp1, ∀ o, s14.heap.get? b = some o → s'.heap.get? b = some o ∧ H' b = none := fun b hb o z =>
          have k := I'.pin (b, o) (List.mem_append_right _ (List.mem_append_right _ (mem_pinsAt hb z)))
          ⟨k.1, k.2.1⟩
        refine ⟨m', hm, j + 1, H', I'.unpinned.weak (by rw [← hw15, wipe_length]) (fun j v z => by rw [← hw15] at z; exact (wipe_some z).1), T1.keep _ _ _ st14 fun b hb o z => (pinned b hb o z).1, fun b hb => ?_, w'⟩
        obtain ⟨o, z, _⟩ := T1.obj _ _ st14 b hb
        exact (pinned b hb o z).2
      cases b1 with
      | false => exact fin1 _ _ I16 q16
      | true => exact act_K hk he hxe I16 q16 fin1
  exact start2D loop1 (T1.self X.A 0 _ _ _ st11 loop1)
theorem dict_swap2 {kx vx tg iter tg1 iter1 : Expr} {ifs ifs1 : List Expr} {scope : Scope} {own : List (Str × Nat)} {pos : Pos} {vs1 : List Nat} {i : Nat} {y : Str} {py spos : Pos} {tk tv : TE} {g g1 : TG} {tt tt1 : TT} {wi wi1 : TI} (hc : X.calm = true) (hN : X.N.Nodup) (hy : X.N[i]? = some y) (hyl : X.env.scope.names.lookup y = some .local)
    (hsw : swapsWith (.DictComp kx vx [⟨tg, iter, ifs, 0⟩, ⟨tg1, iter1, ifs1, 0⟩] scope pos) (some (.Name y py)) spos.line X.env = pure true) (hi : PI X tg iter wi) (ok : BlkOk X.N X.env.scope scope own) (hv : ∀ i ∈ vs1, i ∈ own.map (·.2))
    (hg : ∀ (s : Shared) (H : Hp) (C : Addr) (cl : List (Str × Addr)) (fp : List Addr), PG (X.blk s H scope (compEnvC scope cl C X.env) fp) tg g)
    (ht : ∀ (s : Shared) (H : Hp) (C : Addr) (cl : List (Str × Addr)) (fp : List Addr), PTs (X.blk s H scope (compEnvC scope cl C X.env) fp) ifs tt)
    (hi1 : ∀ (s : Shared) (H : Hp) (C : Addr) (cl : List (Str × Addr)) (fp : List Addr), PI (X.blk s H scope (compEnvC scope cl C X.env) fp) tg1 iter1 wi1)
    (hg1 : ∀ (s : Shared) (H : Hp) (C : Addr) (cl : List (Str × Addr)) (fp : List Addr), PG (X.blk s H scope (compEnvC scope cl C X.env) fp) tg1 g1)
    (ht1 : ∀ (s : Shared) (H : Hp) (C : Addr) (cl : List (Str × Addr)) (fp : List Addr), PTs (X.blk s H scope (compEnvC scope cl C X.env) fp) ifs1 tt1)
    (hk : ∀ (s : Shared) (H : Hp) (C : Addr) (cl : List (Str × Addr)) (fp : List Addr), PE (X.blk s H scope (compEnvC scope cl C X.env) fp) kx tk)
    (he : ∀ (s : Shared) (H : Hp) (C : Addr) (cl : List (Str × Addr)) (fp : List Addr), PE (X.blk s H scope (compEnvC scope cl C X.env) fp) vx tv)
    (hs : ∀ x, foldedSetIterable iter X.env x = pure x) (hs1 : ∀ env x, foldedSetIterable iter1 env x = pure x) :
    PS X (.Assign [.Name y py] (.DictComp kx vx [⟨tg, iter, ifs, 0⟩, ⟨tg1, iter1, ifs1, 0⟩] scope pos) spos) (tAsg (tGc wi g tt (ta2 wi1 g1 tt1 (taK tk tv) vs1) (fun _ => .dK []) (own.map (·.2))) (gName i)) := by
  refine ⟨fun pins s σ H Dn I h => ?_⟩
  rw [exec_Assign_Name_used _ _ _ _ hsw]
  refine wpAny_bind (wpAny_standAt (wpAny_bind ?_))
  show wpAny _ X.A (do let _ ← comprehension (.DictComp kx vx [⟨tg, iter, ifs, 0⟩, ⟨tg1, iter1, ifs1, 0⟩] scope pos) scope X.env (firstIterPos [⟨tg, iter, ifs, 0⟩, ⟨tg1, iter1, ifs1, 0⟩] pos) newDict false (eval iter X.env) (some (assign (.Name y py) X.env))) _ _ s
  refine wpAny_bind (thn (gc_core2 (Q := fun x H1 => gName i x σ H1 Dn.nx) (O := { cls := .type "dict", data := .dict #[] }) (act := act2 X.prog X.w X.A (.DictComp kx vx [⟨tg, iter, ifs, 0⟩, ⟨tg1, iter1, ifs1, 0⟩] scope pos) iter1) (Qf := fun _ s' => SP X pins Dn .next s') rfl
    (loop2D_out hs1) (fun R s it acc env h0 h => codeAny_compStart_dict h0 h) (fun s Qv Ev h => wpAny_newObj_type h) (fun H h hb => dk_empty h hb) hc hN I hi ok hg ht
    (fun s H C cl fp D pins s1 σ1 H1 Nx NE G I1 a hG => act_2 (X := X.blk s H scope (compEnvC scope cl C X.env) fp) hc (hi1 s H C cl fp) (hg1 s H C cl fp) (ht1 s H C cl fp) (hk s H C cl fp) (he s H C cl fp) rfl hv I1 a hG) hs h fun L C s' m H' I' q hn f => ?_) fun _ s' hq => wpAny_pure (wpAny_pure hq))
  show wpAny _ _ (assign (.Name y py) X.env (.ref L)) _ _ _
  refine wpAny_assign_Name (store_ok2 (v := V.ref L) I' hN hy (.inl hyl) rfl (fun s2 I2 ⟨a, sb, ha⟩ => ?_) (.inr hyl))
  obtain ⟨f0, f1, f2, f3, f4, f5⟩ := f
  have apart : C ≠ a := ha.elim (fun z => by rw [z]; exact f1) fun z e => f4 y a z e.symm
  exact ⟨m, hn.sameBut sb apart, fun h3 sb3 => ⟨_, H', I2.turned (t' := s2.toks) (fun b o hb e => (sb3.2 b hb).trans e) f0 f1 f3 f4 f5, q⟩⟩
end
/-! the reading -/
noncomputable def dc2Go (b : D → Env → R Env) (c : Env → R Bool) (it1 : Env → R (List D)) (vs1 : List Nat) (b1 : D → Env → R Env) (c1 : Env → R Bool) (fk fv : Env → R D) (τ0 : Env) : List D → List (D × D) → R (List (D × D))
  | [], kvs => .ok kvs
  | d :: ds, kvs => (b d τ0).bind fun τ1 => (c τ1).bind fun k => if k = true then (it1 τ1).bind fun ds1 => (dcGo b1 c1 fk fv (wipeE τ1 vs1) ds1 kvs).bind fun kvs' => dc2Go b c it1 vs1 b1 c1 fk fv τ0 ds kvs' else dc2Go b c it1 vs1 b1 c1 fk fv τ0 ds kvs
noncomputable def fDc2 (vs : List Nat) (it : Env → R (List D)) (b : D → Env → R Env) (c : Env → R Bool) (it1 : Env → R (List D)) (vs1 : List Nat) (b1 : D → Env → R Env) (c1 : Env → R Bool) (fk fv : Env → R D) : Env → R D := fun τ => (it τ).bind fun ds => (dc2Go b c it1 vs1 b1 c1 fk fv (wipeE τ vs) ds []).calm.bind fun kvs => .ok (.dict kvs)
section
variable {X : Cx} {H0 : Hp} {W : XK} {κ κ1 : Kds} {tg iter tg1 iter1 kx vx c : Expr} {ifs ifs1 : List Expr} {vs ws vs1 ws1 : List Nat} {b b1 : D → Env → R Env} {fi fi1 : Env → R (List D)} {fc fc1 : Env → R Bool} {fk fv : Env → R D} {pos : Pos} {scope : Scope} {own : List (Str × Nat)}
theorem tDc2_of {σ : L2.St} {H : Hp} {Q : VK} (hsub : ∀ j ∈ ws, j ∈ vs) (hsub1 : ∀ j ∈ ws1, j ∈ vs1) (pb : PatOk b ws) (h : tD X.K X.mg H0 W κ rM (fDc2 vs fi b fc fi1 vs1 b1 fc1 fk fv) σ H Q) :
    tGc (tI X.K X.mg H0 W κ fi) (gD X.K H0 (wipeK κ vs) (wipeK κ vs) ws b) (tT X.K X.mg H0 E0 (wipeK κ vs) fc) (ta2 (tI X.K X.mg H0 E0 (wipeK κ vs) fi1) (gD X.K H0 (wipeK (wipeK κ vs) vs1) κ1 ws1 b1) (tT X.K X.mg H0 E0 κ1 fc1) (taK (tD X.K X.mg H0 E0 κ1 rI fk) (tD X.K X.mg H0 E0 κ1 rI fv)) vs1) (fun _ => .dK []) vs σ H Q := by
  obtain ⟨τ, r, q⟩ := h
  refine ⟨τ, r, PostA.imp (PostA.bind q) fun ds qd J H1 s1 ok D nD => ?_⟩
  obtain ⟨res, eres, qr⟩ := lc_ok (PostA.bind qd)
  have n0 : H0 D = none := (r.to s1).same.free nD
  have sD : ∀ {H o}, Same H1 H → Same H1 (upd H D o) := fun s => same_put s nD
  have rr : Rep X.K H0 H1 (wipeK κ vs) (wipe σ vs) (wipeE τ vs) := (r.to s1).wipe vs
  refine ⟨fun i m H => i + m = ds.length ∧ ∃ ks vds, H D = some (.dK ks) ∧ ImAll X.K H (ks.map (·.2)) vds ∧ (∀ p ∈ ks, kOk p.1) ∧ Same H1 H ∧ dc2Go b fc fi1 vs1 b1 fc1 fk fv (wipeE τ vs) (ds.drop i) ((ks.map fun p => keyD p.1).zip vds) = .ok res,
    ⟨ds.length, by omega, [], [], upd_same, .nil, fun _ h => absurd h List.not_mem_nil, sD (Same.refl _), by simpa using eres⟩, fun i m H2 hW => ?_⟩
  obtain ⟨em, ks, vds, hD, ia, ko, s2, ez⟩ := hW
  by_cases hi : i < ds.length
  · refine .inr ⟨ok.go H2 i (Same.pers s2) hi, fun H' => i + 1 + (m - 1) = ds.length ∧ ∃ ks vds, H' D = some (.dK ks) ∧ ImAll X.K H' (ks.map (·.2)) vds ∧ (∀ p ∈ ks, kOk p.1) ∧ Same H1 H' ∧ dc2Go b fc fi1 vs1 b1 fc1 fk fv (wipeE τ vs) (ds.drop (i + 1)) ((ks.map fun p => keyD p.1).zip vds) = .ok res,
      fun H' hN => ⟨m - 1, by omega, hN⟩, fun x H3 hy => ?_⟩
    have hd : ds[i]? = some ds[i] := List.getElem?_eq_getElem hi
    obtain ⟨s3, ix⟩ := ok.yld H2 i x H3 ds[i] (Same.pers s2) hy hd
    rw [List.drop_eq_getElem_cons hi] at ez
    unfold dc2Go at ez
    obtain ⟨τ1, eb, ez⟩ := bind_ok' ez
    obtain ⟨k, ec, ez⟩ := bind_ok' ez
    have rw0 : Rep X.K H0 H3 (wipeK κ vs) (wipe σ vs) (wipeE τ vs) := rr.to (s2.trans s3)
    refine ⟨wipeE τ vs, ds[i], rw0, ix, ?_⟩
    rw [eb]
    intro σ2 r2 k2
    refine ⟨wipe_eq (by rw [k2.1, wipe_length]) k2.2 hsub, τ1, r2, ?_⟩
    rw [ec]
    intro H4 s4
    have hD4 : H4 D = some (.dK ks) := s4 _ _ (s3 _ _ hD)
    have s14 : Same H1 H4 := s2.trans (s3.trans s4)
    have ia4 : ImAll X.K H4 (ks.map (·.2)) vds := ia.mono (Same.pers (s3.trans s4))
    have apart : ∀ j d, τ1[j]? = some (some d) → kd (wipeK κ vs) j = .own → σ2[j]? ≠ some (some (.ref D)) := fun j d e ko z => by
      have jw : j ∉ ws := fun m => by rw [wipeK_in (hsub j m)] at ko; cases ko
      rw [pb _ _ _ eb j jw] at e
      rw [k2.2 j jw] at z
      obtain ⟨a, a1, _, a3⟩ := rr.own j d e ko
      rw [a1] at z; cases z
      obtain ⟨o, ho⟩ := a3.there
      rw [nD] at ho; cases ho
    cases k with
    | false =>
      rw [if_neg (by decide)] at ez ⊢
      exact ⟨by omega, ks, vds, hD4, ia4, ko, s14, ez⟩
    | true =>
      rw [if_pos rfl] at ez ⊢
      obtain ⟨ds1, ei, ez⟩ := bind_ok' ez
      obtain ⟨kvs', ein, ez⟩ := bind_ok' ez
      refine ⟨τ1, r2.to s4, ?_⟩
      rw [ei]
      intro J1 H5 s5 ok1
      refine ⟨fun j k H => j + k = ds1.length ∧ ∃ ks vds, H D = some (.dK ks) ∧ ImAll X.K H (ks.map (·.2)) vds ∧ (∀ p ∈ ks, kOk p.1) ∧ Same H1 H ∧ Pers H5 H ∧ Rep X.K H0 H (wipeK κ vs) σ2 τ1 ∧ dcGo b1 fc1 fk fv (wipeE τ1 vs1) (ds1.drop j) ((ks.map fun p => keyD p.1).zip vds) = .ok kvs',
        ⟨ds1.length, by omega, ks, vds, s5 _ _ hD4, ia4.mono (Same.pers s5), ko, s14.trans s5, Pers.refl _, (r2.to s4).to s5, by simpa using ein⟩, fun j k H6 hW1 => ?_⟩
      obtain ⟨em1, ks, vds, hD6, ia6, ko, s6, p6, r6, ew⟩ := hW1
      by_cases hj : j < ds1.length
      · refine .inr ⟨ok1.go H6 j p6 hj, fun H' => j + 1 + (k - 1) = ds1.length ∧ ∃ ks vds, H' D = some (.dK ks) ∧ ImAll X.K H' (ks.map (·.2)) vds ∧ (∀ p ∈ ks, kOk p.1) ∧ Same H1 H' ∧ Pers H5 H' ∧ Rep X.K H0 H' (wipeK κ vs) σ2 τ1 ∧ dcGo b1 fc1 fk fv (wipeE τ1 vs1) (ds1.drop (j + 1)) ((ks.map fun p => keyD p.1).zip vds) = .ok kvs',
          fun H' hN => ⟨k - 1, by omega, hN⟩, fun x1 H7 hy1 => ?_⟩
        have hd1 : ds1[j]? = some ds1[j] := List.getElem?_eq_getElem hj
        obtain ⟨s7, ix1⟩ := ok1.yld H6 j x1 H7 ds1[j] p6 hy1 hd1
        rw [List.drop_eq_getElem_cons hj] at ew
        unfold dcGo at ew
        obtain ⟨τ2, eb1, ew⟩ := bind_ok' ew
        obtain ⟨k1, ec1, ew⟩ := bind_ok' ew
        refine ⟨wipeE τ1 vs1, ds1[j], (r6.to s7).wipe vs1, ix1, ?_⟩
        rw [eb1]
        intro σ3 r3 k3
        refine ⟨wipe_eq (by rw [k3.1, wipe_length]) k3.2 hsub1, τ2, r3, ?_⟩
        rw [ec1]
        intro H8 s8
        have hD8 : H8 D = some (.dK ks) := s8 _ _ (s7 _ _ hD6)
        have s18 : Same H1 H8 := s6.trans (s7.trans s8)
        have p8 : Pers H5 H8 := p6.trans (Same.pers (s7.trans s8))
        have ia8 : ImAll X.K H8 (ks.map (·.2)) vds := ia6.mono (Same.pers (s7.trans s8))
        have r8 : Rep X.K H0 H8 (wipeK κ vs) σ2 τ1 := r6.to (s7.trans s8)
        cases k1 with
        | false =>
          rw [if_neg (by decide)] at ew ⊢
          exact ⟨by omega, ks, vds, hD8, ia8, ko, s18, p8, r8, ew⟩
        | true =>
          rw [if_pos rfl] at ew ⊢
          obtain ⟨xk, ek, ew⟩ := bind_ok' ew
          obtain ⟨xv, ev, ew⟩ := bind_ok' ew
          refine ⟨τ2, r3.to s8, ?_⟩
          rw [ek]
          intro y H9 s9 iy
          refine ⟨τ2, (r3.to s8).to s9, ?_⟩
          rw [ev]
          intro z Ha sa iz
          by_cases okk : isKey xk = true ∧ ((ks.map fun p => keyD p.1).zip vds).length < sizeLine
          · rw [if_pos okk] at ew
            obtain ⟨kk, rfl⟩ := key_of1 okk.1
            obtain ⟨rfl, kok⟩ := im_key iy
            have hl : ks.length = vds.length := by have := ia8.length; simpa using this
            obtain ⟨vds', l', e', i'⟩ := zip_K hl kk z xv
            have hDa : Ha D = some (.dK ks) := sa _ _ (s9 _ _ hD8)
            have ma : Mut (Ha D) := by rw [hDa]; trivial
            have pu : Pers Ha (upd Ha D (.dK (putK ks kk z))) := pers_upd ma
            refine ⟨ks, kk, rfl, hDa, by have := okk.2; simp [hl] at this; omega, by omega, putK ks kk z, vds', upd_same, (i' _ _ (ia8.mono (Same.pers (s9.trans sa))) iz).mono pu, fun p hp => ?_, sD (s18.trans (s9.trans sa)), p8.trans ((Same.pers (s9.trans sa)).trans pu), ((r8.to s9).to sa).other ma n0 apart, by rw [← e']; exact ew⟩
            unfold putK at hp
            split at hp
            · obtain ⟨q0, hq0, rfl⟩ := List.mem_map.mp hp
              have := ko q0 hq0
              split <;> exact this
            · rcases List.mem_append.mp hp with hp | hp
              · exact ko p hp
              · rw [List.mem_singleton.mp hp]; exact kok
          · rw [if_neg okk] at ew; cases ew
      · refine .inl ⟨ok1.stop H6 j p6 (by omega), ?_⟩
        have ej : ds1.drop j = [] := List.drop_eq_nil_of_le (by omega)
        rw [ej] at ew
        cases ew
        exact ⟨by omega, ks, vds, hD6, ia6, ko, s6, ez⟩
  · refine .inl ⟨ok.stop H2 i (Same.pers s2) (by omega), ?_⟩
    have ei : ds.drop i = [] := List.drop_eq_nil_of_le (by omega)
    rw [ei] at ez
    cases ez
    exact qr (.ref D) H2 (s1.trans s2) ⟨D, _, rfl, rfl, s1.free nD, .dK hD ko ia⟩
/-- x = {k: v for .. for ..} -/
theorem ps_dc2 {i : Nat} {y : Str} {py spos : Pos} (hc : X.calm = true) (hN : X.N.Nodup) (hy : X.N[i]? = some y) (hyl : X.env.scope.names.lookup y = some .local)
    (hsw : swapsWith (.DictComp kx vx [⟨tg, iter, ifs, 0⟩, ⟨tg1, iter1, ifs1, 0⟩] scope pos) (some (.Name y py)) spos.line X.env = pure true) (hi : DI X H0 W κ tg iter fi) (ok : BlkOk X.N X.env.scope scope own) (hvs : own.map (·.2) = vs) (hv1 : ∀ i ∈ vs1, i ∈ vs) (pb : PatOk b ws)
    (hg : ∀ (s : Shared) (H : Hp) (C : Addr) (cl : List (Str × Addr)) (fp : List Addr), DP (X.blk s H scope (compEnvC scope cl C X.env) fp) H0 (wipeK κ vs) tg ws b (wipeK κ vs))
    (ht : ∀ (s : Shared) (H : Hp) (C : Addr) (cl : List (Str × Addr)) (fp : List Addr), DTs (X.blk s H scope (compEnvC scope cl C X.env) fp) H0 E0 (wipeK κ vs) ifs fc)
    (hi1 : ∀ (s : Shared) (H : Hp) (C : Addr) (cl : List (Str × Addr)) (fp : List Addr), DI (X.blk s H scope (compEnvC scope cl C X.env) fp) H0 E0 (wipeK κ vs) tg1 iter1 fi1)
    (hg1 : ∀ (s : Shared) (H : Hp) (C : Addr) (cl : List (Str × Addr)) (fp : List Addr), DP (X.blk s H scope (compEnvC scope cl C X.env) fp) H0 (wipeK (wipeK κ vs) vs1) tg1 ws1 b1 κ1)
    (ht1 : ∀ (s : Shared) (H : Hp) (C : Addr) (cl : List (Str × Addr)) (fp : List Addr), DTs (X.blk s H scope (compEnvC scope cl C X.env) fp) H0 E0 κ1 ifs1 fc1)
    (hk : ∀ (s : Shared) (H : Hp) (C : Addr) (cl : List (Str × Addr)) (fp : List Addr), DE (X.blk s H scope (compEnvC scope cl C X.env) fp) H0 E0 κ1 rI kx fk)
    (he : ∀ (s : Shared) (H : Hp) (C : Addr) (cl : List (Str × Addr)) (fp : List Addr), DE (X.blk s H scope (compEnvC scope cl C X.env) fp) H0 E0 κ1 rI vx fv)
    (hsub : ∀ j ∈ ws, j ∈ vs := by decide) (hsub1 : ∀ j ∈ ws1, j ∈ vs1 := by decide) (hs : ∀ x, foldedSetIterable iter X.env x = pure x := by intro _; rfl) (hs1 : ∀ env x, foldedSetIterable iter1 env x = pure x := by intro _ _; rfl) :
    ∃ te, PS X (.Assign [.Name y py] (.DictComp kx vx [⟨tg, iter, ifs, 0⟩, ⟨tg1, iter1, ifs1, 0⟩] scope pos) spos) (tAsg te (gName i)) ∧ ∀ σ H Q, tD X.K X.mg H0 W κ rM (fDc2 vs fi b fc fi1 vs1 b1 fc1 fk fv) σ H Q → te σ H Q :=
  ⟨_, dict_swap2 (g := gD X.K H0 (wipeK κ vs) (wipeK κ vs) ws b) (tt := tT X.K X.mg H0 E0 (wipeK κ vs) fc) (wi1 := tI X.K X.mg H0 E0 (wipeK κ vs) fi1) (g1 := gD X.K H0 (wipeK (wipeK κ vs) vs1) κ1 ws1 b1) (tt1 := tT X.K X.mg H0 E0 κ1 fc1) (tk := tD X.K X.mg H0 E0 κ1 rI fk) (tv := tD X.K X.mg H0 E0 κ1 rI fv) (vs1 := vs1)
      hc hN hy hyl hsw hi.pi ok (by rw [hvs]; exact hv1) (fun s H C cl fp => (hg s H C cl fp).pg) (fun s H C cl fp => (ht s H C cl fp).pt) (fun s H C cl fp => (hi1 s H C cl fp).pi) (fun s H C cl fp => (hg1 s H C cl fp).pg) (fun s H C cl fp => (ht1 s H C cl fp).pt) (fun s H C cl fp => (hk s H C cl fp).pe) (fun s H C cl fp => (he s H C cl fp).pe) hs hs1,
    fun σ H Q h => by rw [hvs]; exact tDc2_of hsub hsub1 pb h⟩
/-- {k: v for .. for ..} -/
theorem de_dc2 (hc : X.calm = true) (hN : X.N.Nodup) (hi : DI X H0 W κ tg iter fi) (ok : BlkOk X.N X.env.scope scope own) (hvs : own.map (·.2) = vs) (hv1 : ∀ i ∈ vs1, i ∈ vs) (pb : PatOk b ws)
    (hg : ∀ (s : Shared) (H : Hp) (C : Addr) (cl : List (Str × Addr)) (fp : List Addr), DP (X.blk s H scope (compEnvC scope cl C X.env) fp) H0 (wipeK κ vs) tg ws b (wipeK κ vs))
    (ht : ∀ (s : Shared) (H : Hp) (C : Addr) (cl : List (Str × Addr)) (fp : List Addr), DTs (X.blk s H scope (compEnvC scope cl C X.env) fp) H0 E0 (wipeK κ vs) ifs fc)
    (hi1 : ∀ (s : Shared) (H : Hp) (C : Addr) (cl : List (Str × Addr)) (fp : List Addr), DI (X.blk s H scope (compEnvC scope cl C X.env) fp) H0 E0 (wipeK κ vs) tg1 iter1 fi1)
    (hg1 : ∀ (s : Shared) (H : Hp) (C : Addr) (cl : List (Str × Addr)) (fp : List Addr), DP (X.blk s H scope (compEnvC scope cl C X.env) fp) H0 (wipeK (wipeK κ vs) vs1) tg1 ws1 b1 κ1)
    (ht1 : ∀ (s : Shared) (H : Hp) (C : Addr) (cl : List (Str × Addr)) (fp : List Addr), DTs (X.blk s H scope (compEnvC scope cl C X.env) fp) H0 E0 κ1 ifs1 fc1)
    (hk : ∀ (s : Shared) (H : Hp) (C : Addr) (cl : List (Str × Addr)) (fp : List Addr), DE (X.blk s H scope (compEnvC scope cl C X.env) fp) H0 E0 κ1 rI kx fk)
    (he : ∀ (s : Shared) (H : Hp) (C : Addr) (cl : List (Str × Addr)) (fp : List Addr), DE (X.blk s H scope (compEnvC scope cl C X.env) fp) H0 E0 κ1 rI vx fv)
    (hsub : ∀ j ∈ ws, j ∈ vs := by decide) (hsub1 : ∀ j ∈ ws1, j ∈ vs1 := by decide) (hs : ∀ x, foldedSetIterable iter X.env x = pure x := by intro _; rfl) (hs1 : ∀ env x, foldedSetIterable iter1 env x = pure x := by intro _ _; rfl) :
    DE X H0 W κ rM (.DictComp kx vx [⟨tg, iter, ifs, 0⟩, ⟨tg1, iter1, ifs1, 0⟩] scope pos) (fDc2 vs fi b fc fi1 vs1 b1 fc1 fk fv) :=
  ⟨⟨fun pins s σ H Q I ⟨τ, r, q⟩ => by
    rw [arm_eval_DictComp]
    refine gc_core2 (Q := Q) (g := gD X.K H0 (wipeK κ vs) (wipeK κ vs) ws b) (tt := tT X.K X.mg H0 E0 (wipeK κ vs) fc) (ta := ta2 (tI X.K X.mg H0 E0 (wipeK κ vs) fi1) (gD X.K H0 (wipeK (wipeK κ vs) vs1) κ1 ws1 b1) (tT X.K X.mg H0 E0 κ1 fc1) (taK (tD X.K X.mg H0 E0 κ1 rI fk) (tD X.K X.mg H0 E0 κ1 rI fv)) vs1) (U0 := fun _ => .dK []) (O := { cls := .type "dict", data := .dict #[] }) (act := act2 X.prog X.w X.A (.DictComp kx vx [⟨tg, iter, ifs, 0⟩, ⟨tg1, iter1, ifs1, 0⟩] scope pos) iter1) rfl
      (loop2D_out hs1) (fun R s it acc env h0 h => codeAny_compStart_dict h0 h) (fun s Qv Ev h => wpAny_newObj_type h) (fun H h hb => dk_empty h hb) hc hN I hi.pi ok
      (fun s H C cl fp => (hg s H C cl fp).pg) (fun s H C cl fp => (ht s H C cl fp).pt) (fun s H C cl fp D pins s1 σ1 H1 Nx NE G I1 a hG => ?_) hs ?_ fun D C s' m H' I' q hn f => ⟨m, hn, fun h'' sb => ?_⟩
    · exact act_2 (X := X.blk s H scope (compEnvC scope cl C X.env) fp) hc (hi1 s H C cl fp).pi (hg1 s H C cl fp).pg (ht1 s H C cl fp).pt (hk s H C cl fp).pe (he s H C cl fp).pe rfl (by rw [hvs]; exact hv1) I1 a hG
    · rw [hvs]; exact tDc2_of hsub hsub1 pb ⟨τ, r, q⟩
    · obtain ⟨f0, f1, f2, f3, f4, f5⟩ := f
      exact ⟨.ref D, H', I'.turned (t' := s'.toks) (fun b o hb z => (sb.2 b hb).trans z) f0 f1 f3 f4 f5, rfl, q⟩⟩⟩
end
end PL
set_option Elab.async false
set_option linter.all false
set_option maxRecDepth 100000
set_option maxHeartbeats 1000000
/-! PL37: books whose last part is known to have no attributes; dict(..) of a tuple of pairs, of a list of pairs. -/
namespace PL
open PySem PySem.Spec PyProof.Rows L2
def rZ : Res := fun K _ H' v d => Im K H' v d ∧ NoAt H' v d
theorem le_ZI : Res.Le rZ rI := ⟨fun _ _ _ _ _ h => h.1⟩
def dBk : D → R D
  | .tuple xs => .ok (.tuple xs)
  | _ => .bad
@[simp] theorem dBk_tuple (xs : List D) : dBk (.tuple xs) = .ok (.tuple xs) := id rfl
section
variable {X : Cx} {H0 : Hp} {W : XK} {κ : Kds} {ρ : Res} {e a b c : Expr} {es : List Expr} {f fa fb fc : Env → R D} {fs : Env → R (List D)} {n : Nat} {pos p : Pos}
theorem im_bk {K : PySem.W.Frag} {H : Hp} {v : V} {xs : List D} (h : Fd K H v (.tuple xs)) : Im K H v (.tuple xs) := by
  cases h with
  | bk h a n => exact .tup h (by rw [sizeLine_eq]; exact (by decide : 4 ≤ 16777216)) a
theorem de_bkI (h : DE X H0 W κ rF e f) : DE X H0 W κ rI e (f1 dBk f) :=
  ⟨h.pe.cons fun σ H Q ⟨τ, r, q⟩ => ⟨τ, r, PostA.imp (PostA.bind q) fun d pd v H1 s1 hv => by
    cases d <;> try exact pd.elim
    exact pd v H1 s1 (im_bk hv)⟩⟩
/-! tuple(xs) of an own list: what is made bears no attributes -/
def startsT : List D → Bool
  | .tuple _ :: _ => true
  | _ => false
def kTupZ (K : PySem.W.Frag) (x : V) (H : Hp) (Q : VK) : Prop :=
  ∃ p xs, x = .ref p ∧ SqL K H p xs ∧ ((∀ q, H q = none → Q (.ref q) (upd H q (.tup xs))) ∨ (∀ q o, H q = none → o.dict = none → Q (.ref q) (upd H q (.frz o (.tup xs)))))
theorem rl_tupZ (pins : List (Addr × Obj)) (s : Shared) (σ : L2.St) (H : Hp) (x : V) (v : Value) (Q : VK) (I : Inv X pins σ H s) (r : RelV x v) (h : kTupZ X.K x H Q) :
    wpAny (model X.prog X.w) X.A (call (.type "tuple") [v]) (EP X pins σ Q) X.xe s := by
  obtain ⟨p, xs, rfl, hs, q⟩ := h
  obtain rfl : v = .ref p := r
  obtain ⟨its, rv, pl, hz⟩ := I.list hs
  refine call_tuple_list pl.isList (fun h' hk => ?_) (by rw [List.size_toArray, ← rv.length]; exact hz)
  have J : Inv X pins σ H { s with heap := h' } := I.kept (t' := s.toks) hk
  have ot : ∀ H2, ObjOk X.prog X.w H2 (h'.push { cls := .type "tuple", data := .seq its.toArray }) h'.objs.size (.tup xs) := fun H2 => ⟨hz, its, rv, IsTup.new _ _⟩
  rcases q with q | q
  · exact ⟨.ref h'.objs.size, _, J.laid (o := .tup xs) (t' := s.toks) (fun b o e => Heap.get?_push_of_some _ e) (Nat.le_refl _) (ot _), rfl, q _ (J.hok.fresh (Nat.le_refl _))⟩
  · exact ⟨.ref h'.objs.size, _, J.laid (o := .frz { cls := .type "tuple", data := .seq its.toArray } (.tup xs)) (t' := s.toks) (fun b o e => Heap.get?_push_of_some _ e) (Nat.le_refl _) ⟨Heap.get?_push_size _ rfl, ot _⟩, rfl, q _ _ (J.hok.fresh (Nat.le_refl _)) rfl⟩
theorem pe_tupZ {ta : TE} (hg : Gl X "tuple") (hm : X.mg "tuple" = none) (ha : PE X a ta) (na : starEach [a] X.env = (false, eval a X.env) :: starEach [] X.env := by rfl) :
    PE X (.Call (.Name "tuple" p) [a] [] pos) (tThen ta (kTupZ X.K)) :=
  ⟨fun pins s σ H Q I h => Call_ (ld_blt I hg hm boot_tuple (PyProof.Rows.callWith_type1 (one_arg ha I h (fun v s2 x H2 I2 r q => rl_tupZ pins s2 σ H2 x v Q I2 r q) na) na))⟩
/-- tuple(name), the name an own list's -/
theorem de_tupZ (i : Nat) {x : Str} {px : Pos} (hg : Gl X "tuple") (hm : X.mg "tuple" = none) (hk : kd κ i = .own := by rfl) (hN : X.N[i]? = some x := by rfl) (hv : Vis X.env.scope x := by first | exact Or.inl rfl | exact Or.inr (Or.inl rfl) | exact Or.inr (Or.inr rfl))
    (hd : (x == ("__debug__" : Str)) = false := by decide) (hcd : (x == ("__classdict__" : Str)) = false := by decide) (na : starEach [.Name x px] X.env = (false, eval (.Name x px) X.env) :: starEach [] X.env := by rfl) :
    DE X H0 W κ rZ (.Call (.Name "tuple" p) [.Name x px] [] pos) (f1 dTuple (fVar i)) :=
  ⟨(pe_tupZ hg hm (pe_var hN hv hd hcd) na).cons fun σ H Q ⟨τ, r, q⟩ => by
    obtain ⟨d, e, k⟩ := post_var (PostA.bind q)
    obtain ⟨a, h1, h2, h3⟩ := r.own i d e hk
    refine ⟨.ref a, h1, ?_⟩
    cases h3 with
    | @lst xs ds g1 z g2 =>
      have k : ∀ v H', Same H H' → rZ X.K H H' v (.tuple ds) → Q v H' := k
      refine ⟨a, xs, rfl, .inl (.inl g1), ?_⟩
      cases ds with
      | nil => exact .inl fun q nq => k _ _ (same_upd nq) ⟨im_tup_new nq g2 z, trivial⟩
      | cons d0 ds =>
        cases d0 with
        | tuple e0 => exact .inr fun q o nq no => k _ _ (same_upd nq) ⟨.ftup upd_same z (g2.mono (Same.pers (same_upd nq))), ⟨q, o, xs, rfl, upd_same, no⟩⟩
        | _ => exact .inl fun q nq => k _ _ (same_upd nq) ⟨im_tup_new nq g2 z, trivial⟩
    | dK => exact k.elim
    | dT => exact k.elim⟩
/-! a display whose last part is such -/
def tAZ (K : PySem.W.Frag) (mg : Str → Option Value) (H0 : Hp) (W : XK) (κ : Kds) (fs : Env → R (List D)) : TA := fun σ H Q => ∃ τ, Rep K H0 H κ σ τ ∧ PostA mg W H (fs τ) fun ds => ∀ vs H', Same H H' → ImAll K H' vs ds → (∃ vs0 v ds0 d, vs = vs0 ++ [v] ∧ ds = ds0 ++ [d] ∧ NoAt H' v d) → Q vs H'
structure DAZ (X : Cx) (H0 : Hp) (W : XK) (κ : Kds) (es : List Expr) (fs : Env → R (List D)) (n : Nat) : Prop where
  pa : PA X es (tAZ X.K X.mg H0 W κ fs)
  len : ∀ τ ds, fs τ = .ok ds → ds.length = n
theorem daz_one (ha : DE X H0 W κ rZ e f) (hs : starEach [e] X.env = (false, eval e X.env) :: starEach [] X.env := by rfl) : DAZ X H0 W κ [e] (fCons f fNil) 1 :=
  ⟨(pa_cons ha.pe pa_nil hs).cons' fun σ H Q ⟨τ, r, q⟩ => ⟨τ, r, PostA.imp (PostA.bind q) fun d pd v H1 s1 hv => by
    have pd : ∀ vs H', Same H H' → ImAll X.K H' vs [d] → (∃ vs0 v ds0 d0, vs = vs0 ++ [v] ∧ [d] = ds0 ++ [d0] ∧ NoAt H' v d0) → Q vs H' := pd
    exact pd [v] H1 s1 (.one hv.1) ⟨[], v, [], d, rfl, rfl, hv.2⟩⟩,
   fun τ ds e => by
    unfold fCons at e
    cases h1 : f τ with
    | ok d => rw [h1, R.bind_ok] at e; cases e; rfl
    | err n => rw [h1] at e; cases e
    | bad => rw [h1] at e; cases e⟩
theorem daz_cons (ha : DE X H0 W κ rI e f) (hr : DAZ X H0 W κ es fs n) (hs : starEach (e :: es) X.env = (false, eval e X.env) :: starEach es X.env := by rfl) : DAZ X H0 W κ (e :: es) (fCons f fs) (n + 1) :=
  ⟨(pa_cons ha.pe hr.pa hs).cons' fun σ H Q ⟨τ, r, p⟩ => ⟨τ, r, PostA.imp (PostA.bind p) fun d pd v H1 s1 hv => ⟨τ, r.to s1, PostA.imp (PostA.bind (PostA.to pd s1)) fun ds pds vs H2 s2 hvs hz =>
    pds (v :: vs) H2 (s1.trans s2) (.cons (hv.mono (Same.pers s2)) hvs) (by
      obtain ⟨vs0, w, ds0, d0, e1, e2, z⟩ := hz
      exact ⟨v :: vs0, w, d :: ds0, d0, by rw [e1]; rfl, by rw [e2]; rfl, z⟩)⟩⟩,
   fun τ ds e => by
    unfold fCons at e
    cases h1 : f τ with
    | ok d =>
      rw [h1, R.bind_ok] at e
      cases h2 : fs τ with
      | ok r => rw [h2] at e; cases e; exact congrArg (· + 1) (hr.len τ r h2)
      | err n => rw [h2] at e; cases e
      | bad => rw [h2] at e; cases e
    | err n => rw [h1] at e; cases e
    | bad => rw [h1] at e; cases e⟩
theorem de_bk4 {k : Nat} (h : DAZ X H0 W κ es fs 4) : DE X H0 W κ rF (.Tuple es k pos) (fTup fs) :=
  ⟨(pe_tup h.pa).cons fun σ H Q ⟨τ, r, p⟩ => ⟨τ, r, PostA.imp' (PostA.bind p) fun ds e pd vs H1 s1 hvs hz => by
    have l1 := hvs.length
    have l2 := h.len τ ds e
    refine ⟨Nat.le_of_lt (small1000 (by omega)), fun q nq => pd _ _ (same_put s1 (s1.free nq)) ?_⟩
    have sq : Same H1 (upd H1 q (.tup vs)) := same_upd nq
    obtain ⟨vs0, w, ds0, d0, e1, e2, z⟩ := hz
    match ds, vs, l2, (l1.trans l2) with
    | [d0', d1', d2', d3'], [x0, x1, x2, x3], _, _ =>
      have e1' := congrArg List.getLast? e1
      have e2' := congrArg List.getLast? e2
      simp at e1' e2'
      subst e1' e2'
      exact .bk upd_same (hvs.mono (Same.pers sq)) (z.mono (Same.pers sq))⟩⟩
/-! the last part of such a book -/
def dIx3 : D → R D
  | .tuple [_, _, _, d] => .ok d
  | _ => .bad
@[simp] theorem dIx3_four (a b c d : D) : dIx3 (.tuple [a, b, c, d]) = .ok d := id rfl
def rIx3 (K : PySem.W.Frag) (mg : Str → Option Value) (W : XK) : R2 := fun x y H Q => y = .int 3 ∧ ∃ a, Fd K H x a ∧ Post K mg W rZ H Q (dIx3 a)
theorem ix_3 : IxR X (rIx3 X.K X.mg W) := by
  intro value slice pins s σ H x y v u Q I rx ry ⟨ey, a, ha, q⟩ hs
  subst ey
  cases ha with
  | bk h im nz =>
    have q : ∀ v H', Same H H' → rZ X.K H H' v _ → Q v H' := q
    refine ix_tup value slice pins s σ H _ _ v u Q I rx ry ⟨_, _, 3, _, rfl, rfl, .of h, rfl, q _ H (Same.refl H) ⟨?_, nz⟩⟩ hs
    cases im with
    | cons _ im => cases im with
      | cons _ im => cases im with
        | cons _ im => cases im with
          | cons i3 _ => exact i3
  | _ => exact q.elim
theorem de_ix3 {j : Nat} {p2 : Pos} (ha : DE X H0 W κ rF a fa) (hs : PlainIx (.Constant (.int 3) j p2) := by intro _ _; rfl) : DE X H0 W κ rZ (.Subscript a (.Constant (.int 3) j p2) pos) (f1 dIx3 fa) :=
  ⟨(pe_ix (ix_3 (W := W)) ha.pe pe_int hs).cons fun σ H Q ⟨τ, r, q⟩ => ⟨τ, r, PostA.imp (PostA.bind q) fun a pa x H1 s1 ha => ⟨rfl, a, ha, PostA.imp (PostA.to pa s1) fun d k v H' s3 q => k v H' (s1.trans s3) q⟩⟩⟩
/-! dict(pairs) -/
/-- pairs with keys -/
def prsOf : List D → Option (List (D × D))
  | [] => some []
  | .tuple [k, v] :: r => if isKey k = true then (prsOf r).map ((k, v) :: ·) else none
  | _ :: _ => none
noncomputable def dDictOf : D → R D
  | .list xs => match prsOf xs with | some kds => .ok (.dict (dMerge [] kds)) | none => .bad
  | _ => .bad
noncomputable def dDictOfT : D → R D
  | .tuple (.tuple e :: xs) => match prsOf (.tuple e :: xs) with | some kds => .ok (.dict (dMerge [] kds)) | none => .bad
  | _ => .bad
theorem prs_im {K : PySem.W.Frag} {H : Hp} : ∀ {ds : List D} {vs : List V} {kds : List (D × D)}, ImAll K H vs ds → prsOf ds = some kds → ∃ (ps : List Addr) (kvs : List (Key × V)), vs = ps.map V.ref ∧ Paired (fun p kv => SqT K H p [kV kv.1, kv.2]) ps kvs ∧
    kds.map (·.1) = kvs.map (fun kv => keyD kv.1) ∧ ImAll K H (kvs.map (·.2)) (kds.map (·.2)) ∧ (∀ p ∈ kvs, kOk p.1)
  | [], _, _, .nil, h => by
    cases h
    exact ⟨[], [], rfl, .nil, rfl, .nil, fun _ h => absurd h List.not_mem_nil⟩
  | d :: r, v :: vs, kds, .cons i0 i1, h => by
    unfold prsOf at h
    split at h
    · rename_i e
      cases e
    · rename_i k w r' e
      cases e
      by_cases hk : isKey k = true
      · rw [if_pos hk] at h
        cases hr : prsOf r with
        | none => rw [hr] at h; cases h
        | some kds' =>
          rw [hr] at h
          cases h
          obtain ⟨ps, kvs, e1, e2, e3, e4, e5⟩ := prs_im i1 hr
          obtain ⟨a, xs, rfl, hq, ia, _⟩ := rD_tup (H := H) (.inl i0)
          obtain ⟨kk, rfl⟩ := key_of1 hk
          cases ia with
          | cons j0 ja => cases ja with
            | cons j1 jn => cases jn with
              | nil =>
                obtain ⟨rfl, ko⟩ := im_key j0
                refine ⟨a :: ps, (kk, _) :: kvs, by rw [e1]; rfl, .cons hq e2, by rw [List.map_cons, List.map_cons, e3], .cons j1 e4, fun p hp => ?_⟩
                rcases List.mem_cons.mp hp with z | z
                · rw [z]; exact ko
                · exact e5 p z
      · rw [if_neg hk] at h; cases h
    · cases h
/-- what a new dict of such pairs reads as -/
theorem own_pairs {K : PySem.W.Frag} {H : Hp} {kvs : List (Key × V)} {kds : List (D × D)} (e3 : kds.map (·.1) = kvs.map (fun kv => keyD kv.1)) (e4 : ImAll K H (kvs.map (·.2)) (kds.map (·.2))) (e5 : ∀ p ∈ kvs, kOk p.1) {q : Addr} (nq : H q = none) :
    rM K H (upd H q (.dK (mergeK [] kvs))) (.ref q) (.dict (dMerge [] kds)) := by
  obtain ⟨ds', a1, a2, a3⟩ := merge_own (K := K) (H := H) kvs kds [] [] e3 e4 e5 .nil (fun _ h => absurd h List.not_mem_nil)
  refine ⟨q, _, rfl, rfl, nq, ?_⟩
  have a3' : dMerge [] kds = ((mergeK [] kvs).map fun p => keyD p.1).zip ds' := a3
  rw [a3']
  exact .dK upd_same a2 (a1.mono (Same.pers (same_upd nq)))
theorem dc_dictOf (hc : X.calm = true) : DC1 X W (.type "dict") dDictOf rE rM := by
  intro pins s σ H x v a Q I rx ha q
  cases a <;> try exact q.elim
  rename_i xs
  obtain ⟨l, ys, rfl, r1, i1, z1⟩ := rE_list ha
  simp only [dDictOf] at q
  cases hp : prsOf xs with
  | none => simp only [hp] at q; exact q.elim
  | some kds =>
    simp only [hp] at q
    have q : ∀ v H', Same H H' → rM X.K H H' v (.dict (dMerge [] kds)) → Q v H' := q
    obtain ⟨ps, kvs, e1, e2, e3, e4, e5⟩ := prs_im i1 hp
    subst e1
    exact call_dictP hc pins s σ H _ _ Q I (.cons rx .nil) ⟨l, ps, kvs, rfl, .inl r1, e2, fun p np => q _ _ (same_upd np) (own_pairs e3 e4 e5 np)⟩
/-- dict(t) of a tuple of pairs without attributes -/
theorem list_of {α : Type} {P : Nat → α → Prop} : ∀ n : Nat, (∀ j, j < n → ∃ x, P j x) → ∃ l : List α, l.length = n ∧ ∀ j x, l[j]? = some x → P j x
  | 0, _ => ⟨[], rfl, fun j x e => by simp at e⟩
  | n + 1, h => by
    obtain ⟨l, h1, h2⟩ := list_of n fun j hj => h j (by omega)
    obtain ⟨x, hx⟩ := h n (by omega)
    refine ⟨l ++ [x], by simp [h1], fun j y e => ?_⟩
    by_cases hj : j < l.length
    · rw [List.getElem?_append_left hj] at e; exact h2 j y e
    · rw [List.getElem?_append_right (by omega)] at e
      have : j = n := by
        have := (List.getElem?_eq_some_iff.mp e).1
        simp at this; omega
      subst this
      rw [h1, Nat.sub_self] at e
      cases e
      exact hx
theorem stay_Z : Res.Stay rZ := ⟨fun _ _ _ _ _ _ _ p h => ⟨h.1.mono (Same.pers p), h.2.mono (Same.pers p)⟩⟩
theorem dc_dictOfT (hc : X.calm = true) : DC1 X W (.type "dict") dDictOfT rZ rM := by
  intro pins s σ H x v a Q I rx ha q
  obtain ⟨ha, hz⟩ := ha
  unfold dDictOfT at q
  split at q
  · rename_i e xs
    cases hp : prsOf (.tuple e :: xs) with
    | none => simp only [hp] at q; exact q.elim
    | some kds =>
      simp only [hp] at q
      have q : ∀ v H', Same H H' → rM X.K H H' v (.dict (dMerge [] kds)) → Q v H' := q
      obtain ⟨l, o, ys, rfl, hl, hno⟩ := hz
      cases rx
      have hi : ImAll X.K H ys (.tuple e :: xs) := by
        cases ha with
        | tup h _ _ => rw [hl] at h; cases h
        | ftup h _ i => rw [hl] at h; cases h; exact i
      obtain ⟨ps, kvs, e1, e2, e3, e4, e5⟩ := prs_im hi hp
      subst e1
      obtain ⟨ho, hz, its, rv, o', ho', hc', n, hdat⟩ := (show ObjOk X.prog X.w H s.heap l (.frz o (.tup _)) from I.hok l _ hl)
      rw [ho] at ho'
      cases ho'
      have ei := refs_at rv
      subst ei
      obtain ⟨prs, rel, hlen, hpr⟩ := pairs_of I e2
      rw [List.length_map] at hz
      have hS : prs.length ≤ sizeLine := by rw [hlen]; exact hz
      have lk : kvs.length = prs.length := rel.length
      obtain ⟨pvs, lv, hv⟩ := list_of (P := fun j (z : Value × Value) => ∃ q b, prs[j]? = some q ∧ q.2 = z.2 ∧ ps[j]? = some b ∧ IsTup s.heap b #[z.1, z.2] ∧ keyIs q.1 z.1 = true) prs.length fun j hj => by
        obtain ⟨b, u, f1, f2, f3⟩ := hpr j _ (List.getElem?_eq_getElem hj)
        exact ⟨(u, prs[j].2), prs[j], b, List.getElem?_eq_getElem hj, rfl, f1, f2, f3⟩
      refine PySem.call_dict_pairs (prog := X.prog) (w := X.w) (knd := mixKind X.prog X.w) (kvs := prs) (PySem.PairArg.tuple l _ (fun j => ps.getD j 0) pvs) (I.ok.hd hc) ⟨⟨o, n, ho, hc', hno, hdat⟩, by simp [lv, hlen], fun j k v e => ?_⟩ ⟨lv.symm, fun j k v e => ?_⟩ (by rw [lv]; exact hS) fun h' tk hd' k => ?_
      · obtain ⟨q0, b, f1, f2, f3, f4, f5⟩ := hv j _ e
        have : ps.getD j 0 = b := by rw [List.getD_eq_getElem?_getD, f3]; rfl
        show (List.map Value.ref ps).toArray[j]? = some (Value.ref (ps.getD j 0)) ∧ PairAt s.heap (ps.getD j 0) k v
        rw [this]
        exact ⟨by simp [f3], .inl f4⟩
      · obtain ⟨q0, b, f1, f2, f3, f4, f5⟩ := hv j _ e
        exact ⟨q0.1, by rw [f1]; exact congrArg some (Prod.ext rfl f2), f5⟩
      · have hm : (s.heap.objs.size == sysModules) = false := beq_eq_false_iff_ne.mpr (Nat.ne_of_gt I.big)
        have hl2 : (mergeK [] kvs).length ≤ sizeLine := by
          refine Nat.le_trans (length_mergeK kvs []) ?_
          rw [List.length_nil, Nat.zero_add, lk]
          exact hS
        have nn := I.hok.fresh (a := s.heap.objs.size) (Nat.le_refl _)
        exact ⟨.ref s.heap.objs.size, _, I.laid (o := .dK (mergeK [] kvs)) (t' := tk) (fun b ob eb => k b ob (by simp) eb) (Nat.le_refl _) (show ObjOk X.prog X.w _ _ _ (.dK (mergeK [] kvs)) from ⟨hl2, hm, merged [] prs, KV.merge rel .nil, hd'⟩), rfl, q _ _ (same_upd nn) (own_pairs e3 e4 e5 nn)⟩
  · exact q.elim
end
end PL
set_option Elab.async false
set_option linter.all false
set_option maxRecDepth 100000
set_option maxHeartbeats 1000000
/-! PM1: readings worked out. -/
namespace PL
open PySem PySem.Spec PyProof.Rows L2
open PySem.W (dataLe dataLt alike alikeAll AllAlike Sortable)
section
variable {τ : Env} {f fa fb fc fk fv : Env → R D} {fs : Env → R (List D)} {g g1 g2 : Env → R Out} {c ta tb : Env → R Bool} {d : D} {o : Option D} {i j : Nat} {it : Env → R (List D)} {b : D → Env → R Env} {e : Env → R D} {vs : List Nat} {h : D → D → R D} {u : D → R D}
@[simp] theorem v_fVar0 : fVar 0 (some d :: τ) = .ok d := id rfl
@[simp] theorem v_fVarS : fVar (i + 1) (o :: τ) = fVar i τ := id rfl
@[simp] theorem v_fC : fC d τ = .ok d := id rfl
@[simp] theorem v_f1 : f1 u fa τ = (fa τ).bind u := id rfl
@[simp] theorem v_f2 : f2 h fa fb τ = (fa τ).bind fun a => (fb τ).bind fun b => h a b := id rfl
@[simp] theorem v_fTru : fTru f τ = (f τ).bind dTruth := id rfl
@[simp] theorem v_tAndB : tAndB ta tb τ = (ta τ).bind fun c => if c = true then tb τ else .ok false := id rfl
@[simp] theorem v_tOrB : tOrB ta tb τ = (ta τ).bind fun c => if c = true then .ok true else tb τ := id rfl
@[simp] theorem v_tNotB : tNotB ta τ = (ta τ).bind fun c => .ok (!c) := id rfl
@[simp] theorem v_fAnd : fAnd fa fb τ = (fa τ).bind fun a => (dTruth a).bind fun c => if c = true then fb τ else .ok a := id rfl
@[simp] theorem v_fOr : fOr fa fb τ = (fa τ).bind fun a => (dTruth a).bind fun c => if c = true then .ok a else fb τ := id rfl
@[simp] theorem v_fNot : fNot fa τ = (fa τ).bind fun a => (dTruth a).bind fun c => .ok (.bool (!c)) := id rfl
@[simp] theorem v_fIf : fIf c fa fb τ = (c τ).bind fun c => if c = true then fa τ else fb τ := id rfl
@[simp] theorem v_fNil : fNil τ = .ok [] := id rfl
@[simp] theorem v_fCons : fCons f fs τ = (f τ).bind fun d => (fs τ).bind fun ds => .ok (d :: ds) := id rfl
@[simp] theorem v_fTup : fTup fs τ = (fs τ).bind fun ds => .ok (.tuple ds) := id rfl
@[simp] theorem v_fLst : fLst fs τ = (fs τ).bind fun ds => .ok (.list ds) := id rfl
@[simp] theorem v_fCall {q : List D → R D} : fCall q fs τ = (fs τ).bind q := id rfl
@[simp] theorem v_fSl {l k : Env → R (Option Int)} : fSl f l k τ = (f τ).bind fun d => (l τ).bind fun l => (k τ).bind fun h => dSlice d l h := id rfl
@[simp] theorem v_oNone : oNone τ = .ok none := id rfl
@[simp] theorem v_oSome : oSome f τ = (f τ).bind dPart := id rfl
@[simp] theorem v_iSeq : iSeq f τ = (f τ).bind itemsOf := id rfl
@[simp] theorem v_iRange : iRange f τ = (f τ).bind dRange := id rfl
@[simp] theorem v_sNext : sNext τ = .ok (.nx τ) := id rfl
@[simp] theorem v_sSeq : sSeq g1 g2 τ = (g1 τ).bind fun o => match o with | .nx τ' => g2 τ' | .rt d => .ok (.rt d) := id rfl
@[simp] theorem v_sDo : sDo f τ = (f τ).bind fun _ => .ok (.nx τ) := id rfl
@[simp] theorem v_sRet : sRet f τ = (f τ).bind fun d => .ok (.rt d) := id rfl
@[simp] theorem v_sIf : sIf c g1 g2 τ = (c τ).bind fun k => if k = true then g1 τ else g2 τ := id rfl
@[simp] theorem v_sSet : sSet i f τ = (f τ).bind fun d => .ok (.nx (τ.set i (some d))) := id rfl
@[simp] theorem v_sForget {L : List Nat} : sForget L τ = .ok (.nx (wipeE τ L)) := id rfl
@[simp] theorem v_wipe0 : wipeE τ [] = τ := id rfl
@[simp] theorem v_wipeS {v : Nat} : wipeE τ (v :: vs) = (wipeE τ vs).set v none := id rfl
@[simp] theorem v_sFor : sFor it b g τ = (it τ).bind fun ds => forGo b g ds τ := id rfl
@[simp] theorem v_for0 : forGo b g [] τ = .ok (.nx τ) := id rfl
theorem v_forS {ds : List D} : forGo b g (d :: ds) τ = (b d τ).calm.bind fun τ1 => (g τ1).bind fun o => match o with | .nx τ2 => forGo b g ds τ2 | .rt d => .ok (.rt d) := id rfl
@[simp] theorem v_bName : bName i d τ = .ok (τ.set i (some d)) := id rfl
@[simp] theorem v_bNil : bNil [] τ = .ok τ := id rfl
@[simp] theorem v_bCons {bs : List D → Env → R Env} {r : List D} : bCons b bs (d :: r) τ = (b d τ).bind fun τ' => bs r τ' := id rfl
@[simp] theorem v_bTup {bs : List D → Env → R Env} {ds : List D} : bTup bs (.tuple ds) τ = bs ds τ := id rfl
theorem v_sPop : sPop i j τ = (listAt i τ).bind fun xs => match xs[xs.length - 1]? with | some d => .ok (.nx ((τ.set i (some (.list xs.dropLast))).set j (some d))) | none => .bad := id rfl
@[simp] theorem v_sPar : sPar i j fa fb τ = (fa τ).bind fun d => (fb τ).bind fun e => .ok (.nx ((τ.set i (some d)).set j (some e))) := id rfl
@[simp] theorem v_sPar3 {l : Nat} : sPar3 i j l fa fb fc τ = (fa τ).bind fun d => (fb τ).bind fun e => (fc τ).bind fun c => .ok (.nx (((τ.set i (some d)).set j (some e)).set l (some c))) := id rfl
@[simp] theorem v_sApp : sApp i f τ = (listAt i τ).bind fun xs => (f τ).bind fun d => if xs.length < sizeLine then .ok (.nx (τ.set i (some (.list (xs ++ [d]))))) else .bad := id rfl
@[simp] theorem v_sDPut : sDPut i fk fv τ = (fv τ).bind fun d => (dictAt i τ).bind fun kvs => (fk τ).bind fun k => if keyFit kvs k = true ∧ kvs.length < sizeLine then .ok (.nx (τ.set i (some (.dict (dSet kvs k d))))) else .bad := id rfl
@[simp] theorem v_list0 {xs : List D} : listAt 0 (some (.list xs) :: τ) = .ok xs := id rfl
@[simp] theorem v_listS : listAt (i + 1) (o :: τ) = listAt i τ := id rfl
@[simp] theorem v_dict0 {xs : List (D × D)} : dictAt 0 (some (.dict xs) :: τ) = .ok xs := id rfl
@[simp] theorem v_dictS : dictAt (i + 1) (o :: τ) = dictAt i τ := id rfl
@[simp] theorem v_retL0 {xs : List D} : sRetL 0 (some (.list xs) :: τ) = .ok (.rt (.list xs)) := id rfl
@[simp] theorem v_retLS : sRetL (i + 1) (o :: τ) = sRetL i τ := id rfl
@[simp] theorem v_retM0 {xs : List (D × D)} : sRetM 0 (some (.dict xs) :: τ) = .ok (.rt (.dict xs)) := id rfl
@[simp] theorem v_retMS : sRetM (i + 1) (o :: τ) = sRetM i τ := id rfl
@[simp] theorem v_keep0 {xs : List D} : sKeep 0 (some (.list xs) :: τ) = .ok (.nx (some (.list xs) :: τ)) := id rfl
theorem v_fLc {fe : Env → R D} {fc : Env → R Bool} : fLc vs it b fc fe τ = (it τ).bind fun ds => (lcGo b fc fe (wipeE τ vs) ds).calm.bind fun ys => .ok (.list ys) := id rfl
@[simp] theorem v_yes : tYes' τ = .ok true := id rfl
end
/-! one step after the other -/
section
variable {τ τ' : Env} {f fa fb : Env → R D} {g g1 g2 ga gb : Env → R Out} {c : Env → R Bool} {d : D} {i j : Nat} {r : R Out} {xs : List D} {ds : List D} {it : Env → R (List D)} {b : D → Env → R Env}
theorem st_nx (h : g1 τ = .ok (.nx τ')) (k : g2 τ' = r) : sSeq g1 g2 τ = r := by rw [v_sSeq, h]; exact k
theorem st_rt (h : g1 τ = .ok (.rt d)) : sSeq g1 g2 τ = .ok (.rt d) := by rw [v_sSeq, h]; rfl
theorem st_set (h : f τ = .ok d) (k : g2 (τ.set i (some d)) = r) : sSeq (sSet i f) g2 τ = r := st_nx (by rw [v_sSet, h]; rfl) k
theorem st_app (hl : listAt i τ = .ok xs) (h : f τ = .ok d) (hz : xs.length < sizeLine) (k : g2 (τ.set i (some (.list (xs ++ [d])))) = r) : sSeq (sApp i f) g2 τ = r :=
  st_nx (by rw [v_sApp, hl, R.bind_ok, h, R.bind_ok, if_pos hz]) k
theorem st_ifT (h : c τ = .ok true) (k : sSeq ga g2 τ = r) : sSeq (sIf c ga gb) g2 τ = r := by
  rw [v_sSeq, v_sIf, h, R.bind_ok, if_pos rfl, ← v_sSeq]; exact k
theorem st_ifF (h : c τ = .ok false) (k : sSeq gb g2 τ = r) : sSeq (sIf c ga gb) g2 τ = r := by
  rw [v_sSeq, v_sIf, h, R.bind_ok, if_neg (by decide), ← v_sSeq]; exact k
theorem st_next (k : g2 τ = r) : sSeq sNext g2 τ = r := k
theorem st_for {it : Env → R (List D)} (h : it τ = .ok ds) (h2 : forGo b g ds τ = .ok (.nx τ')) (k : g2 τ' = r) : sSeq (sFor it b g) g2 τ = r := st_nx (by rw [v_sFor, h]; exact h2) k
theorem st_seq {g3 : Env → R Out} (k : sSeq g1 (sSeq g2 g3) τ = r) : sSeq (sSeq g1 g2) g3 τ = r := by
  rw [v_sSeq, v_sSeq]
  rw [v_sSeq] at k
  rw [← k]
  cases g1 τ with
  | ok o => cases o <;> rfl
  | err n => rfl
  | bad => rfl
theorem st_ret (h : f τ = .ok d) : sRet f τ = .ok (.rt d) := by rw [v_sRet, h]; rfl
/-- a step set as the last of a branch -/
theorem st_set1 (h : f τ = .ok d) : sSet i f τ = .ok (.nx (τ.set i (some d))) := by rw [v_sSet, h]; rfl
theorem st_if1T (h : c τ = .ok true) (k : ga τ = r) : sIf c ga gb τ = r := by rw [v_sIf, h]; exact k
theorem st_if1F (h : c τ = .ok false) (k : gb τ = r) : sIf c ga gb τ = r := by rw [v_sIf, h]; exact k
theorem out_rt {g : Env → R Out} {n : Nat} {ds : List D} (h : g (startE n ds) = .ok (.rt d)) : fnOut n g ds = .ok d := by unfold fnOut; rw [h]; rfl
end
/-- a comprehension, item by item -/
theorem lc_eq {b : D → Env → R Env} {fc : Env → R Bool} {fe : Env → R D} {τ : Env} {α : Type} (enc : α → D) (p : α → Bool) (q : α → D) (τ1 : α → Env) : ∀ (xs : List α), (∀ x ∈ xs, b (enc x) τ = .ok (τ1 x) ∧ fc (τ1 x) = .ok (p x) ∧ (p x = true → fe (τ1 x) = .ok (q x))) →
    lcGo b fc fe τ (xs.map enc) = .ok ((xs.filter p).map q)
  | [], _ => rfl
  | x :: r, h => by
    obtain ⟨h1, h2, h3⟩ := h x List.mem_cons_self
    have ih := lc_eq enc p q τ1 r fun y hy => h y (List.mem_cons_of_mem _ hy)
    unfold lcGo at ih ⊢
    show (b (enc x) τ).bind _ = _
    rw [h1, R.bind_ok, h2, R.bind_ok]
    cases hp : p x with
    | true =>
      rw [if_pos rfl, h3 hp, R.bind_ok]
      show (lcGo b fc fe τ (r.map enc)).bind _ = _
      have ih' : lcGo b fc fe τ (r.map enc) = .ok ((r.filter p).map q) := lc_eq enc p q τ1 r fun y hy => h y (List.mem_cons_of_mem _ hy)
      rw [ih', R.bind_ok, List.filter_cons_of_pos hp]
      rfl
    | false =>
      rw [if_neg (by decide), List.filter_cons_of_neg (by rw [hp]; decide)]
      exact lc_eq enc p q τ1 r fun y hy => h y (List.mem_cons_of_mem _ hy)

/-! ### texts -/
@[simp] theorem eqv_str (x y : Str) : PyData.eqv (.str x) (.str y) = decide (x = y) := by
  rw [PyData.eqv]
  by_cases h : x = y
  · subst h; simp
  · simp [h]
theorem eqv_strs : ∀ (xs ys : List Str), PyData.eqvAll (xs.map .str) (ys.map .str) = decide (xs = ys)
  | [], [] => by simp [PyData.eqvAll]
  | [], _ :: _ => by simp [PyData.eqvAll]
  | _ :: _, [] => by simp [PyData.eqvAll]
  | x :: xs, y :: ys => by
    rw [List.map_cons, List.map_cons, PySem.W.eqv_all_cons, eqv_strs xs ys, eqv_str]
    by_cases h1 : x = y <;> by_cases h2 : xs = ys <;> simp [h1, h2]
theorem depth_strs : ∀ xs : List Str, PyData.depthAll (xs.map .str) = 0
  | [] => by simp [PyData.depthAll]
  | x :: xs => by rw [List.map_cons, PyData.depthAll, depth_strs xs]; simp [PyData.depth]
theorem eqv_list_strs (xs ys : List Str) : PyData.eqv (.list (xs.map .str)) (.list (ys.map .str)) = decide (xs = ys) := by
  rw [PyData.eqv]; exact eqv_strs xs ys
theorem near_str (x y : Str) : near (.str x) (.str y) = true := by simp [near, isDict, PyData.depth]
theorem depth_list_strs (xs : List Str) : (PyData.list (xs.map .str)).depth = 1 := by
  rw [PyData.depth, depth_strs]
theorem near_list_strs (xs ys : List Str) : near (.list (xs.map .str)) (.list (ys.map .str)) = true := by simp [near, isDict, depth_list_strs]
@[simp] theorem dEq_str (x y : Str) : dEq (.str x) (.str y) = .ok (.bool (decide (x = y))) := by
  unfold dEq; rw [if_pos (near_str x y), eqv_str]
theorem dEq_strs (xs ys : List Str) : dEq (.list (xs.map .str)) (.list (ys.map .str)) = .ok (.bool (decide (xs = ys))) := by
  unfold dEq; rw [if_pos (near_list_strs xs ys), eqv_list_strs]
theorem dNe_strs (xs ys : List Str) : dNe (.list (xs.map .str)) (.list (ys.map .str)) = .ok (.bool (!decide (xs = ys))) := by
  unfold dNe; rw [if_pos (near_list_strs xs ys), eqv_list_strs]
theorem any_strs (xs : List Str) (x : Str) : anyEq (xs.map .str) (.str x) = decide (x ∈ xs) := by
  unfold anyEq
  rw [List.any_map]
  by_cases h : x ∈ xs
  · simp [h]
  · simp [h]
    intro y hy e
    exact h (e ▸ hy)
theorem dIn_strs (xs : List Str) (x : Str) : dIn (.str x) (.list (xs.map .str)) = .ok (.bool (decide (x ∈ xs))) := by
  unfold dIn dInP; dsimp only
  rw [if_pos ⟨rfl, by rw [depth_strs]; omega⟩, any_strs]; rfl
theorem dNotIn_strs (xs : List Str) (x : Str) : dNotIn (.str x) (.list (xs.map .str)) = .ok (.bool (!decide (x ∈ xs))) := by
  unfold dNotIn dInP; dsimp only
  rw [if_pos ⟨rfl, by rw [depth_strs]; omega⟩, any_strs]; rfl
theorem dIn_tstrs (xs : List Str) (x : Str) : dIn (.str x) (.tuple (xs.map .str)) = .ok (.bool (decide (x ∈ xs))) := by
  unfold dIn dInP; dsimp only
  rw [if_pos ⟨rfl, by rw [depth_strs]; omega⟩, any_strs]; rfl
theorem dNotIn_tstrs (xs : List Str) (x : Str) : dNotIn (.str x) (.tuple (xs.map .str)) = .ok (.bool (!decide (x ∈ xs))) := by
  unfold dNotIn dInP; dsimp only
  rw [if_pos ⟨rfl, by rw [depth_strs]; omega⟩, any_strs]; rfl
/-- texts in order -/
def strLe (x y : Str) : Bool := decide (x.cps.toList ≤ y.cps.toList)
/-- sorted texts -/
def sortS (xs : List Str) : List Str := xs.mergeSort strLe
theorem le_strs : dataLe false (fun b : Str => PyData.str b) = strLe := PySem.W.dataLe_str id
theorem srt_strs (xs : List Str) : srt (xs.map PyData.str) = (sortS xs).map PyData.str := by
  rw [srt_map]
  show (xs.mergeSort (dataLe false fun b : Str => PyData.str b)).map PyData.str = _
  rw [le_strs]; rfl
theorem strLe_total : PySem.W.TotalLe strLe := by
  rw [← le_strs]
  exact PySem.W.sortLe_total (listOrd itemOrd) false fun b => PySem.W.keyToks (PyData.str b)
theorem strLe_anti (x y : Str) (h1 : strLe x y = true) (h2 : strLe y x = true) : x = y := str_le_anti (of_decide_eq_true h1) (of_decide_eq_true h2)
theorem sortS_perm (xs : List Str) : (sortS xs).Perm xs := List.mergeSort_perm _ _
theorem sortS_mem {xs : List Str} {x : Str} : x ∈ sortS xs ↔ x ∈ xs := (sortS_perm xs).mem_iff
theorem sortS_sorted (xs : List Str) : (sortS xs).Pairwise fun a b => strLe a b = true := PySem.W.sort_pairwise strLe_total xs
theorem sortS_len (xs : List Str) : (sortS xs).length = xs.length := (sortS_perm xs).length_eq
/-- two lists of the same texts, each once: sorted alike -/
theorem sortS_eq {xs ys : List Str} (h1 : xs.Nodup) (h2 : ys.Nodup) (h : ∀ x, x ∈ xs ↔ x ∈ ys) : sortS xs = sortS ys := by
  have p : (sortS xs).Perm ys := (sortS_perm xs).trans ((List.perm_ext_iff_of_nodup h1 h2).mpr h)
  exact PySem.W.Srt.the_of_perm _ (fun x y z => strLe_total.trans x y z) (fun x y => Bool.or_eq_true_iff.mpr (strLe_total.total x y)) strLe_anti p (sortS_sorted xs)
/-- a sorted list of such is the sorted list -/
theorem sorted_is {xs ys : List Str} (h1 : xs.Pairwise fun a b => strLe a b = true) (p : xs.Perm ys) : xs = sortS ys :=
  PySem.W.Srt.the_of_perm _ (fun x y z => strLe_total.trans x y z) (fun x y => Bool.or_eq_true_iff.mpr (strLe_total.total x y)) strLe_anti p h1
theorem alike_strs (xs : List Str) : AllAlike (xs.map PyData.str) := PySem.W.AllAlike.of fun _ _ => by simp [alike]
theorem sortable_strs (xs : List Str) : Sortable (xs.map PyData.str) := PySem.W.Sortable.others fun b => ⟨nofun, fun _ => nofun⟩
theorem sortOk_strs (xs : List Str) : sortOk (xs.map PyData.str) := ⟨alike_strs xs, sortable_strs xs, by rw [depth_strs]; omega⟩
theorem dSorted_strs (xs : List Str) : dSortedL (.list (xs.map .str)) = .ok (.list ((sortS xs).map .str)) := by
  unfold dSortedL
  dsimp only
  unfold dSorted
  dsimp only
  rw [if_pos (sortOk_strs xs), srt_strs]
open Classical in
/-- texts, each once -/
noncomputable def uniqS : List Str → List Str
  | [] => []
  | d :: r => if d ∈ r then uniqS r else d :: uniqS r
theorem uniq_strs : ∀ xs : List Str, uniq (xs.map PyData.str) = (uniqS xs).map PyData.str
  | [] => rfl
  | x :: r => by
    have e : (PyData.str x ∈ r.map PyData.str) ↔ x ∈ r := by simp
    rw [List.map_cons]
    unfold uniq uniqS
    by_cases h : x ∈ r
    · rw [if_pos (e.mpr h), if_pos h, uniq_strs r]
    · rw [if_neg (fun z => h (e.mp z)), if_neg h, uniq_strs r]; rfl
theorem mem_uniqS {xs : List Str} {x : Str} : x ∈ uniqS xs ↔ x ∈ xs := by
  have := mem_uniq (ds := xs.map .str) (d := .str x)
  rw [uniq_strs] at this
  simpa using this
theorem nodup_uniqS (xs : List Str) : (uniqS xs).Nodup := by
  have := nodup_uniq (xs.map .str)
  rw [uniq_strs] at this
  exact List.Pairwise.of_map _ (fun _ _ h e => h (by rw [e])) this
theorem setOk_strs {xs : List Str} (h : xs.length < 64) : setOk (xs.map .str) := ⟨.inl (by simpa using h), .inl ⟨xs, rfl⟩⟩
theorem dSortedSet_strs {xs : List Str} (h : xs.length < 64) : dSortedSet (.list (xs.map .str)) = .ok (.list ((sortS (uniqS xs)).map .str)) := by
  unfold dSortedSet
  dsimp only
  rw [if_pos ⟨setOk_strs h, sortOk_strs xs⟩, uniq_strs, srt_strs]
end PL
set_option Elab.async false
set_option linter.all false
set_option maxRecDepth 100000
set_option maxHeartbeats 1000000
/-! PM2: readings worked out: whole numbers, items, pairs of texts. -/
namespace PL
open PySem PySem.Spec PyProof.Rows L2
open PySem.W (dataLe dataLt alike alikeAll AllAlike Sortable)
@[simp] theorem dMod_int {i j : Int} (h : 0 < j) : dMod (.int i) (.int j) = .ok (.int (i % j)) := by simp [dMod, h]
@[simp] theorem dAdd_int (i j : Int) : dAdd (.int i) (.int j) = .ok (.int (i + j)) := id rfl
@[simp] theorem dSub_int (i j : Int) : dSub (.int i) (.int j) = .ok (.int (i - j)) := id rfl
theorem inMul_of {i : Int} (h1 : -(2 ^ 64) < i) (h2 : i < 2 ^ 64) : inMul i = true := by
  unfold inMul
  rw [decide_eq_true h1, decide_eq_true h2]; rfl
theorem dMul_l {i : Int} (j : Int) (h : inMul i = true) : dMul (.int i) (.int j) = .ok (.int (i * j)) := by simp [dMul, h]
theorem dMul_r (i : Int) {j : Int} (h : inMul j = true) : dMul (.int i) (.int j) = .ok (.int (i * j)) := by simp [dMul, h]
theorem dFdiv_int {i j : Int} (h : 0 < j) (h2 : j < 1073741824) : dFdiv (.int i) (.int j) = .ok (.int (i / j)) := by simp [dFdiv, h, h2]
theorem ordOk_int (i j : Int) : ordOk (.int i) (.int j) = true := by simp [ordOk, alike, isNone, PyData.depth]
@[simp] theorem dLt_int (i j : Int) : dLt (.int i) (.int j) = .ok (.bool (decide (i < j))) := by unfold dLt; rw [if_pos (ordOk_int i j), PySem.W.dataLt_int]
@[simp] theorem dGt_int (i j : Int) : dGt (.int i) (.int j) = .ok (.bool (decide (j < i))) := by unfold dGt; rw [if_pos (ordOk_int i j), PySem.W.dataLt_int]
@[simp] theorem dGe_int (i j : Int) : dGe (.int i) (.int j) = .ok (.bool (!decide (i < j))) := by unfold dGe; rw [if_pos (ordOk_int i j), PySem.W.dataLt_int]
@[simp] theorem dLe_int (i j : Int) : dLe (.int i) (.int j) = .ok (.bool (!decide (j < i))) := by unfold dLe; rw [if_pos (ordOk_int i j), PySem.W.dataLt_int]
@[simp] theorem dEq_int (i j : Int) : dEq (.int i) (.int j) = .ok (.bool (decide (i = j))) := by
  unfold dEq
  rw [if_pos (by simp [near, isDict, PyData.depth])]
  simp [PyData.eqv]
  by_cases h : i = j <;> simp [h]
@[simp] theorem dLen_list (xs : List D) : dLen (.list xs) = .ok (.int xs.length) := id rfl
@[simp] theorem dLen_tuple (xs : List D) : dLen (.tuple xs) = .ok (.int xs.length) := id rfl
@[simp] theorem dTuple_list (xs : List D) : dTuple (.list xs) = .ok (.tuple xs) := id rfl
@[simp] theorem dList_list (xs : List D) : dList (.list xs) = .ok (.list xs) := id rfl
@[simp] theorem dList_tuple (xs : List D) : dList (.tuple xs) = .ok (.list xs) := id rfl
@[simp] theorem dTruth_bool (b : Bool) : dTruth (.bool b) = .ok b := id rfl
/-- the item at a place -/
theorem at_nat {α : Type} {xs : List α} {n : Nat} (h : n < xs.length) : L2.atI xs (n : Int) = some xs[n] := by
  unfold L2.atI
  have e : L2.ixN xs.length (n : Int) = some n := by
    simp [L2.ixN]
    omega
  rw [e]
  exact List.getElem?_eq_getElem h
theorem item_list {xs : List D} {n : Nat} (h : n < xs.length) : dItem (.list xs) (.int n) = .ok xs[n] := by
  simp [dItem, at_nat h]
theorem item_tuple {xs : List D} {n : Nat} (h : n < xs.length) : dItem (.tuple xs) (.int n) = .ok xs[n] := by
  simp [dItem, at_nat h]
theorem item_listI {xs : List D} {i : Int} (h0 : 0 ≤ i) (h : i < xs.length) : dItem (.list xs) (.int i) = .ok (xs[i.toNat]'(by omega)) := by
  have := item_list (xs := xs) (n := i.toNat) (by omega)
  rwa [Int.toNat_of_nonneg h0] at this
theorem item_tupleI {xs : List D} {i : Int} (h0 : 0 ≤ i) (h : i < xs.length) : dItem (.tuple xs) (.int i) = .ok (xs[i.toNat]'(by omega)) := by
  have := item_tuple (xs := xs) (n := i.toNat) (by omega)
  rwa [Int.toNat_of_nonneg h0] at this
/-- an item of numbers -/
theorem item_ints {ns : List Int} {i : Int} (h0 : 0 ≤ i) (h : i < ns.length) : dItem (.list (ns.map .int)) (.int i) = .ok (.int (ns[i.toNat]'(by omega))) := by
  rw [item_listI h0 (by simpa using h)]; simp
theorem dRange_nat (n : Nat) (h : n ≤ 16777216) : dRange (.int n) = .ok (rng 0 n) := by
  have : (n : Int) ≤ 16777216 ∧ -16777216 ≤ (n : Int) := by omega
  simp [dRange, this]
theorem seqIndex_nat {n len : Nat} (h : n < len) : seqIndex? (n : Int) len = some n := by
  unfold seqIndex?
  simp
  omega
theorem place_nat {xs : List D} {n : Nat} (h : n < xs.length) (h2 : n < 2 ^ 63) : placeOf (.int n) xs = .ok n := by
  unfold placeOf
  have : -(2 ^ 63) ≤ (n : Int) ∧ (n : Int) < 2 ^ 63 := by omega
  simp only [if_pos this, seqIndex_nat h]
/-! slices -/
theorem slice_to (xs : List D) (n : Nat) : dSlice (.list xs) none (some (n : Int)) = .ok (.list (xs.take n)) := by
  show R.ok (PyData.list (PL.cut xs none (some (n : Int)))) = _
  unfold PL.cut
  rw [HT.sIx_none, HT.sIx_nat]
  simp [List.take_eq_take_iff]
/-! pairs of texts -/
def pD (p : Str × Str) : D := .tuple [.str p.1, .str p.2]
theorem pD_inj {p q : Str × Str} (h : pD p = pD q) : p = q := by
  obtain ⟨a, b⟩ := p
  obtain ⟨c, d⟩ := q
  simp [pD] at h
  exact Prod.ext h.1 h.2
theorem depth_pD (p : Str × Str) : (pD p).depth = 1 := by simp [pD, PyData.depth, PyData.depthAll]
theorem depth_pDs (E : List (Str × Str)) : PyData.depthAll (E.map pD) ≤ 1 := by
  induction E with
  | nil => simp [PyData.depthAll]
  | cons p r ih => rw [List.map_cons, PyData.depthAll, depth_pD]; omega
theorem sortOk_pairs (E : List (Str × Str)) : sortOk (E.map pD) :=
  ⟨PySem.W.AllAlike.of fun p q => by simp [pD, alike, alikeAll], PySem.W.Sortable.tuples fun p => ⟨_, _, rfl⟩, Nat.le_trans (depth_pDs E) (by omega)⟩
theorem setOk_pairs {E : List (Str × Str)} (h : E.length < 64) : setOk (E.map pD) := ⟨.inl (by simpa using h), .inr ⟨E.map fun p => [.inr p.1, .inr p.2], by rw [List.map_map]; rfl⟩⟩
/-- sorted pairs -/
noncomputable def sortP (E : List (Str × Str)) : List (Str × Str) := E.mergeSort (dataLe false pD)
theorem srt_pairs (E : List (Str × Str)) : srt (E.map pD) = (sortP E).map pD := srt_map pD E
theorem sortP_perm (E : List (Str × Str)) : (sortP E).Perm E := List.mergeSort_perm _ _
open Classical in
noncomputable def uniqP : List (Str × Str) → List (Str × Str)
  | [] => []
  | d :: r => if d ∈ r then uniqP r else d :: uniqP r
theorem uniq_pairs : ∀ E : List (Str × Str), uniq (E.map pD) = (uniqP E).map pD
  | [] => rfl
  | x :: r => by
    have e : (pD x ∈ r.map pD) ↔ x ∈ r := by
      rw [List.mem_map]
      exact ⟨fun ⟨y, hy, h⟩ => pD_inj h ▸ hy, fun h => ⟨x, h, rfl⟩⟩
    rw [List.map_cons]
    unfold uniq uniqP
    by_cases h : x ∈ r
    · rw [if_pos (e.mpr h), if_pos h, uniq_pairs r]
    · rw [if_neg (fun z => h (e.mp z)), if_neg h, uniq_pairs r]; rfl
theorem mem_uniqP {E : List (Str × Str)} {x : Str × Str} : x ∈ uniqP E ↔ x ∈ E := by
  have := mem_uniq (ds := E.map pD) (d := pD x)
  rw [uniq_pairs] at this
  have key : ∀ E : List (Str × Str), pD x ∈ E.map pD ↔ x ∈ E := fun E => by
    rw [List.mem_map]
    exact ⟨fun ⟨y, hy, h⟩ => pD_inj h ▸ hy, fun h => ⟨x, h, rfl⟩⟩
  rwa [key, key] at this
theorem nodup_uniqP (E : List (Str × Str)) : (uniqP E).Nodup := by
  have := nodup_uniq (E.map pD)
  rw [uniq_pairs] at this
  exact List.Pairwise.of_map _ (fun _ _ h e => h (by rw [e])) this
theorem uniqP_len (E : List (Str × Str)) : (uniqP E).length ≤ E.length := by
  have := uniq_len (E.map pD)
  rw [uniq_pairs] at this
  simpa using this
/-- sorted(set(pairs)) -/
noncomputable def ssP (E : List (Str × Str)) : List (Str × Str) := sortP (uniqP E)
theorem mem_ssP {E : List (Str × Str)} {x : Str × Str} : x ∈ ssP E ↔ x ∈ E := by unfold ssP; rw [(sortP_perm _).mem_iff, mem_uniqP]
theorem nodup_ssP (E : List (Str × Str)) : (ssP E).Nodup := (sortP_perm _).nodup_iff.mpr (nodup_uniqP E)
theorem ssP_len (E : List (Str × Str)) : (ssP E).length ≤ E.length := by unfold ssP; rw [(sortP_perm _).length_eq]; exact uniqP_len E
theorem dSortedSet_pairs {E : List (Str × Str)} (h : E.length < 64) : dSortedSet (.list (E.map pD)) = .ok (.list ((ssP E).map pD)) := by
  unfold dSortedSet
  dsimp only
  rw [if_pos ⟨setOk_pairs h, sortOk_pairs E⟩, uniq_pairs, srt_pairs]; rfl
theorem dNotIn_list_strs (xs : List Str) (x : Str) : dNotIn (.str x) (.list (xs.map PyData.str)) = .ok (.bool (!decide (x ∈ xs))) := dNotIn_strs xs x
theorem ordOk_str (x y : Str) : ordOk (.str x) (.str y) = true := by simp [ordOk, alike, isNone, PyData.depth]
@[simp] theorem dLt_str (x y : Str) : dLt (.str x) (.str y) = .ok (.bool (decide (x.cps.toList < y.cps.toList))) := by unfold dLt; rw [if_pos (ordOk_str x y), PySem.W.dataLt_str]
end PL
set_option Elab.async false
set_option linter.all false
set_option maxRecDepth 100000
set_option maxHeartbeats 1000000
/-! PM3: more readings worked out: comprehensions as a whole, dicts keyed by tuples of texts, pairs, unpacking. -/
namespace PL
open PySem PySem.Spec PyProof.Rows L2
open PySem.W (dataLe dataLt alike alikeAll AllAlike Sortable)
section
variable {τ τ' : Env} {f fa fb fc' fk fv fe : Env → R D} {fs : Env → R (List D)} {g g1 g2 : Env → R Out} {c fc fc1 : Env → R Bool} {d : D} {i j : Nat} {it it1 : Env → R (List D)} {b b1 : D → Env → R Env} {vs vs1 : List Nat} {r : R Out}
@[simp] theorem v_sUn : sUn f b τ = (f τ).bind fun d => (b d τ).calm.bind fun τ' => .ok (.nx τ') := id rfl
@[simp] theorem v_iEnum : iEnum f τ = (f τ).bind dEnum := id rfl
@[simp] theorem v_iZip2 : iZip2 fa fb τ = (fa τ).bind fun a => (fb τ).bind fun b => dZip a b := id rfl
@[simp] theorem v_iRange2 : iRange2 fa fb τ = (fa τ).bind fun a => (fb τ).bind fun b => dRange2 a b := id rfl
@[simp] theorem v_f3 {g1 g2 : D → D → R D} : f3 g1 g2 fa fb fc' τ = (fa τ).bind fun a => (fb τ).bind fun b => (g1 a b).bind fun k => match k with | .bool true => (fc' τ).bind fun c => g2 b c | .bool false => .ok (.bool false) | _ => .bad := id rfl
theorem st_un (h : f τ = .ok d) (hb : b d τ = .ok τ') (k : g2 τ' = r) : sSeq (sUn f b) g2 τ = r := st_nx (by rw [v_sUn, h, R.bind_ok, hb]; rfl) k
/-- a loop that hands back -/
theorem st_forR {ds : List D} (h : it τ = .ok ds) (h2 : forGo b g ds τ = .ok (.rt d)) : sSeq (sFor it b g) g2 τ = .ok (.rt d) := st_rt (by rw [v_sFor, h]; exact h2)
theorem st_if1 {ga gb : Env → R Out} {k : Bool} (h : c τ = .ok k) (hT : k = true → sSeq ga g2 τ = r) (hF : k = false → sSeq gb g2 τ = r) : sSeq (sIf c ga gb) g2 τ = r := by
  cases k with
  | true => exact st_ifT h (hT rfl)
  | false => exact st_ifF h (hF rfl)
theorem ok_and (a b : Bool) : (if a = true then R.ok b else R.ok false) = R.ok (a && b) := by cases a <;> rfl
theorem ok_or (a b : Bool) : (if a = true then R.ok true else R.ok b) = R.ok (a || b) := by cases a <;> rfl
theorem ok_andD (a b : Bool) : (if a = true then R.ok (PyData.bool b) else R.ok (PyData.bool a)) = R.ok (PyData.bool (a && b)) := by cases a <;> rfl
theorem ok_orD (a b : Bool) : (if a = true then R.ok (PyData.bool a) else R.ok (PyData.bool b)) = R.ok (PyData.bool (a || b)) := by cases a <;> rfl
section
variable {α : Type} {enc : α → D} {τ1 : α → Env}
/-- a comprehension as a whole -/
theorem fLc_run (xs : List α) (p : α → Bool) (q : α → D) (hi : it τ = .ok (xs.map enc)) (hb : ∀ x, b (enc x) (wipeE τ vs) = .ok (τ1 x)) (hc : ∀ x ∈ xs, fc (τ1 x) = .ok (p x)) (he : ∀ x ∈ xs, p x = true → fe (τ1 x) = .ok (q x)) :
    fLc vs it b fc fe τ = .ok (.list ((xs.filter p).map q)) := by
  rw [v_fLc, hi, R.bind_ok, lc_eq enc p q τ1 xs fun x hx => ⟨hb x, hc x hx, he x hx⟩]; rfl
theorem fLc_map (xs : List α) (q : α → D) (hi : it τ = .ok (xs.map enc)) (hb : ∀ x, b (enc x) (wipeE τ vs) = .ok (τ1 x)) (he : ∀ x ∈ xs, fe (τ1 x) = .ok (q x)) :
    fLc vs it b tYes' fe τ = .ok (.list (xs.map q)) := by
  have := fLc_run (vs := vs) (fe := fe) (fc := tYes') xs (fun _ => true) q hi hb (fun _ _ => rfl) fun x hx _ => he x hx
  rwa [List.filter_eq_self.mpr fun _ _ => rfl] at this
variable {β : Type} {enc1 : β → D} {τ2 : α → β → Env}
theorem lc2_eq (ys : α → List β) (p : α → Bool) (p1 : α → β → Bool) (q : α → β → D) {τ : Env} (hb : ∀ x, b (enc x) τ = .ok (τ1 x)) (hb1 : ∀ x y, b1 (enc1 y) (wipeE (τ1 x) vs1) = .ok (τ2 x y)) : ∀ xs : List α, (∀ x ∈ xs, fc (τ1 x) = .ok (p x)) → (∀ x ∈ xs, p x = true → it1 (τ1 x) = .ok ((ys x).map enc1)) →
    (∀ x ∈ xs, ∀ y ∈ ys x, fc1 (τ2 x y) = .ok (p1 x y)) → (∀ x ∈ xs, ∀ y ∈ ys x, p1 x y = true → fe (τ2 x y) = .ok (q x y)) →
    lc2Go b fc it1 vs1 b1 fc1 fe τ (xs.map enc) = .ok ((xs.filter p).flatMap fun x => ((ys x).filter (p1 x)).map (q x))
  | [], _, _, _, _ => rfl
  | x :: r, hc, hi1, hc1, he => by
    have ih := lc2_eq ys p p1 q hb hb1 r (fun y hy => hc y (.tail _ hy)) (fun y hy => hi1 y (.tail _ hy)) (fun y hy => hc1 y (.tail _ hy)) fun y hy => he y (.tail _ hy)
    rw [List.map_cons]
    unfold lc2Go
    rw [hb x, R.bind_ok, hc x (.head _), R.bind_ok]
    cases hp : p x with
    | true =>
      rw [if_pos rfl, hi1 x (.head _) hp, R.bind_ok, lc_eq enc1 (p1 x) (q x) (τ2 x) (ys x) fun y hy => ⟨hb1 x y, hc1 x (.head _) y hy, he x (.head _) y hy⟩, R.bind_ok, ih, R.bind_ok, List.filter_cons_of_pos hp]
      rfl
    | false =>
      rw [if_neg (by decide), List.filter_cons_of_neg (by rw [hp]; decide)]
      exact ih
theorem fLc2_run (xs : List α) (ys : α → List β) (p : α → Bool) (p1 : α → β → Bool) (q : α → β → D) (hi : it τ = .ok (xs.map enc)) (hb : ∀ x, b (enc x) (wipeE τ vs) = .ok (τ1 x)) (hb1 : ∀ x y, b1 (enc1 y) (wipeE (τ1 x) vs1) = .ok (τ2 x y)) (hc : ∀ x ∈ xs, fc (τ1 x) = .ok (p x))
    (hi1 : ∀ x ∈ xs, p x = true → it1 (τ1 x) = .ok ((ys x).map enc1)) (hc1 : ∀ x ∈ xs, ∀ y ∈ ys x, fc1 (τ2 x y) = .ok (p1 x y)) (he : ∀ x ∈ xs, ∀ y ∈ ys x, p1 x y = true → fe (τ2 x y) = .ok (q x y))
    (hl : ((xs.filter p).flatMap fun x => ((ys x).filter (p1 x)).map (q x)).length ≤ sizeLine) :
    fLc2 vs it b fc it1 vs1 b1 fc1 fe τ = .ok (.list ((xs.filter p).flatMap fun x => ((ys x).filter (p1 x)).map (q x))) := by
  unfold fLc2
  rw [hi, R.bind_ok, lc2_eq ys p p1 q hb hb1 xs hc hi1 hc1 he, R.calm_ok, R.bind_ok, if_pos hl]
end
end
/-- a loop as a fold -/
theorem for_fold {S α : Type} {b : D → Env → R Env} {g : Env → R Out} {enc : α → D} (envS : S → Env) (step : S → α → S) (I : S → List α → Prop)
    (h : ∀ s x r, I s (x :: r) → (b (enc x) (envS s)).calm.bind g = .ok (.nx (envS (step s x))) ∧ I (step s x) r) : ∀ (xs : List α) (s : S), I s xs → forGo b g (xs.map enc) (envS s) = .ok (.nx (envS (xs.foldl step s)))
  | [], _, _ => rfl
  | x :: r, s, hI => by
    obtain ⟨h1, h2⟩ := h s x r hI
    rw [List.map_cons, v_forS]
    cases hb : (b (enc x) (envS s)).calm with
    | ok τ1 =>
      rw [hb] at h1
      rw [R.bind_ok] at h1 ⊢
      rw [h1, R.bind_ok]
      exact for_fold envS step I h r (step s x) h2
    | err n => rw [hb] at h1; cases h1
    | bad => rw [hb] at h1; cases h1
/-! ### dicts keyed by tuples of texts -/
abbrev tD' (k : List Str) : D := .tuple (k.map .str)
def dkT (K : List (List Str)) : List (D × D) := (.none, .none) :: K.map fun k => (tD' k, PyData.bool true)
open Classical in
noncomputable def insK (K : List (List Str)) (k : List Str) : List (List Str) := if k ∈ K then K else K ++ [k]
theorem tD'_inj {a b : List Str} (h : tD' a = tD' b) : a = b := by
  injection h with h
  exact List.map_inj_right (fun _ _ e => by injection e) |>.mp h
theorem mem_insK {K : List (List Str)} {k x : List Str} : x ∈ insK K k ↔ x ∈ K ∨ x = k := by
  unfold insK
  by_cases h : k ∈ K
  · rw [if_pos h]; exact ⟨.inl, fun z => z.elim id fun e => e ▸ h⟩
  · rw [if_neg h]; simp
theorem nodup_insK {K : List (List Str)} (h : K.Nodup) (k : List Str) : (insK K k).Nodup := by
  unfold insK
  by_cases hk : k ∈ K
  · rw [if_pos hk]; exact h
  · rw [if_neg hk]
    exact List.nodup_append.mpr ⟨h, by simp, fun x hx y hy => by rw [List.mem_singleton.mp hy]; exact fun e => hk (e ▸ hx)⟩
theorem insK_len (K : List (List Str)) (k : List Str) : (insK K k).length ≤ K.length + 1 := by
  unfold insK
  split <;> simp
theorem all_key (k : List Str) : (k.map PyData.str).all isKey = true := List.all_eq_true.mpr fun d hd => by
  obtain ⟨s, _, rfl⟩ := List.mem_map.mp hd; rfl
theorem dkT_fit (K : List (List Str)) (k : List Str) : keyFit (dkT K) (tD' k) = true := by
  unfold keyFit dkT
  rw [if_pos (show markT _ = true from rfl)]
  exact all_key k
theorem put_dkT (K : List (List Str)) (k : List Str) : dSet (K.map fun k => (tD' k, PyData.bool true)) (tD' k) (PyData.bool true) = (insK K k).map fun k => (tD' k, PyData.bool true) := by
  unfold dSet insK
  have e : (K.map fun k => ((tD' k, PyData.bool true) : D × D)).any (fun p => decide (p.1 = tD' k)) = decide (k ∈ K) := by
    rw [List.any_map]
    by_cases h : k ∈ K
    · rw [decide_eq_true h]; exact List.any_eq_true.mpr ⟨k, h, by simp⟩
    · rw [decide_eq_false h]
      refine Bool.eq_false_iff.mpr fun z => ?_
      obtain ⟨q, hq, e⟩ := List.any_eq_true.mp z
      exact h (tD'_inj (of_decide_eq_true e) ▸ hq)
  rw [e]
  by_cases h : k ∈ K
  · rw [if_pos (decide_eq_true h), if_pos h, List.map_map]
    refine List.map_congr_left fun q _ => ?_
    show (if tD' q = tD' k then (tD' q, PyData.bool true) else (tD' q, PyData.bool true)) = _
    split <;> rfl
  · rw [if_neg (by simp [h]), if_neg h, List.map_append]; rfl
theorem put_dkT' (K : List (List Str)) (k : List Str) : dSet (dkT K) (tD' k) (PyData.bool true) = dkT (insK K k) := by
  unfold dkT
  rw [dSet_mark, put_dkT]
theorem keysA_dkT (K : List (List Str)) : dKeysA (.dict (dkT K)) = .ok (.list (K.map tD')) := by
  unfold dKeysA dkT
  dsimp only
  rw [if_pos (show markT _ = true from rfl), List.tail_cons, List.map_map]; rfl
/-- a dict comprehension keyed by tuples of texts, each to True -/
theorem fDcT_run {τ : Env} {it : Env → R (List D)} {b : D → Env → R Env} {fc : Env → R Bool} {fk fv : Env → R D} {vs : List Nat} {α : Type} {enc : α → D} {τ1 : α → Env} (xs : List α) (p : α → Bool) (k : α → List Str) (hi : it τ = .ok (xs.map enc)) (hb : ∀ x, b (enc x) (wipeE τ vs) = .ok (τ1 x)) (hc : ∀ x ∈ xs, fc (τ1 x) = .ok (p x)) (hk : ∀ x ∈ xs, p x = true → fk (τ1 x) = .ok (tD' (k x))) (hv : ∀ x ∈ xs, p x = true → fv (τ1 x) = .ok (.bool true))
    (hl : xs.length ≤ 900) : fDcT vs it b fc fk fv τ = .ok (.dict (dkT (((xs.filter p).map k).foldl insK []))) := by
  have go : ∀ (xs : List α) (K : List (List Str)), (∀ x ∈ xs, fc (τ1 x) = .ok (p x)) → (∀ x ∈ xs, p x = true → fk (τ1 x) = .ok (tD' (k x))) → (∀ x ∈ xs, p x = true → fv (τ1 x) = .ok (.bool true)) → K.length + xs.length ≤ 900 →
      dtGo b fc fk fv (wipeE τ vs) (xs.map enc) (K.map fun k => (tD' k, PyData.bool true)) = .ok ((((xs.filter p).map k).foldl insK K).map fun k => (tD' k, PyData.bool true)) := fun xs => by
    induction xs with
    | nil => intro K _ _ _ _; rfl
    | cons x r ih =>
      intro K hc hk hv hl
      rw [List.length_cons] at hl
      rw [List.map_cons]
      unfold dtGo
      rw [hb x, R.bind_ok, hc x (.head _), R.bind_ok]
      cases hp : p x with
      | false =>
        rw [if_neg (by decide), List.filter_cons_of_neg (by rw [hp]; decide)]
        exact ih K (fun y hy => hc y (.tail _ hy)) (fun y hy => hk y (.tail _ hy)) (fun y hy => hv y (.tail _ hy)) (by omega)
      | true =>
        rw [if_pos rfl, hk x (.head _) hp, R.bind_ok, hv x (.head _) hp, R.bind_ok, List.filter_cons_of_pos hp]
        dsimp only
        have sm := small1000 (n := K.length) (by omega)
        rw [if_pos ⟨all_key _, by rw [List.length_map]; exact sm⟩, put_dkT, List.map_cons, List.foldl_cons]
        exact ih (insK K (k x)) (fun y hy => hc y (.tail _ hy)) (fun y hy => hk y (.tail _ hy)) (fun y hy => hv y (.tail _ hy)) (by have := insK_len K (k x); omega)
  unfold fDcT
  rw [hi, R.bind_ok]
  have := go xs [] hc hk hv (by simpa using hl)
  rw [show ([] : List (D × D)) = ([] : List (List Str)).map fun k => (tD' k, PyData.bool true) from rfl, this]
  rfl
theorem mem_fold {ks : List (List Str)} {x : List Str} : ∀ {K : List (List Str)}, x ∈ ks.foldl insK K ↔ x ∈ K ∨ x ∈ ks := by
  induction ks with
  | nil => intro K; simp
  | cons k r ih =>
    intro K
    rw [List.foldl_cons, ih, mem_insK, List.mem_cons]
    exact or_assoc
theorem nodup_fold {ks : List (List Str)} : ∀ {K : List (List Str)}, K.Nodup → (ks.foldl insK K).Nodup := by
  induction ks with
  | nil => intro K h; exact h
  | cons k r ih => intro K h; rw [List.foldl_cons]; exact ih (nodup_insK h k)
theorem fold_len {ks : List (List Str)} : ∀ {K : List (List Str)}, (ks.foldl insK K).length ≤ K.length + ks.length := by
  induction ks with
  | nil => intro K; simp
  | cons k r ih => intro K; rw [List.foldl_cons, List.length_cons]; have := ih (K := insK K k); have := insK_len K k; omega
/-- put in, where a condition holds -/
theorem mem_foldIf {α : Type} {P : α → Prop} [DecidablePred P] {k : α → List Str} {c : List Str} : ∀ (xs : List α) (K : List (List Str)), c ∈ xs.foldl (fun K p => if P p then insK K (k p) else K) K ↔ c ∈ K ∨ ∃ p ∈ xs, P p ∧ c = k p
  | [], K => by simp
  | x :: r, K => by
    rw [List.foldl_cons, mem_foldIf r]
    by_cases h : P x
    · rw [if_pos h, mem_insK]
      constructor
      · rintro ((h1 | h1) | ⟨p, hp, h1⟩)
        · exact .inl h1
        · exact .inr ⟨x, .head _, h, h1⟩
        · exact .inr ⟨p, .tail _ hp, h1⟩
      · rintro (h1 | ⟨p, hp, h1, h2⟩)
        · exact .inl (.inl h1)
        · rcases List.mem_cons.mp hp with e | hp
          · subst e; exact .inl (.inr h2)
          · exact .inr ⟨p, hp, h1, h2⟩
    · rw [if_neg h]
      constructor
      · rintro (h1 | ⟨p, hp, h1⟩)
        · exact .inl h1
        · exact .inr ⟨p, .tail _ hp, h1⟩
      · rintro (h1 | ⟨p, hp, h1, h2⟩)
        · exact .inl h1
        · rcases List.mem_cons.mp hp with e | hp
          · subst e; exact absurd h1 h
          · exact .inr ⟨p, hp, h1, h2⟩
theorem nodup_foldIf {α : Type} {P : α → Prop} [DecidablePred P] {k : α → List Str} : ∀ (xs : List α) (K : List (List Str)), K.Nodup → (xs.foldl (fun K p => if P p then insK K (k p) else K) K).Nodup
  | [], K, h => h
  | x :: r, K, h => by
    rw [List.foldl_cons]
    refine nodup_foldIf r _ ?_
    split
    · exact nodup_insK h _
    · exact h
/-! ### sorted lists of tuples of texts -/
theorem depth_tDs (ks : List (List Str)) : PyData.depthAll (ks.map tD') ≤ 1 := by
  induction ks with
  | nil => simp [PyData.depthAll]
  | cons k r ih =>
    rw [List.map_cons, PyData.depthAll]
    have : (tD' k).depth ≤ 1 := by rw [PyData.depth, depth_strs]; exact Nat.le_refl _
    omega
theorem alike_tD (a b : List Str) : alike (tD' a) (tD' b) = true := by
  have go : ∀ a b : List Str, alikeAll (a.map PyData.str) (b.map PyData.str) = true := fun a => by
    induction a with
    | nil => intro b; cases b <;> simp [alikeAll]
    | cons x r ih => intro b; cases b with
      | nil => simp [alikeAll]
      | cons y s => simp [alikeAll, alike, ih]
  simp [alike, go]
theorem sortOk_tDs {ks : List (List Str)} (hn : ∀ k ∈ ks, k ≠ []) : sortOk (ks.map tD') := ⟨PySem.W.AllAlike.of fun a b => alike_tD a b, .inl fun d hd => by
    obtain ⟨k, hk, rfl⟩ := List.mem_map.mp hd
    cases k with
    | nil => exact absurd rfl (hn _ hk)
    | cons x r => exact ⟨_, _, rfl⟩, Nat.le_trans (depth_tDs ks) (by omega)⟩
theorem setOk_tDs {ks : List (List Str)} (h : ks.length < 64) : setOk (ks.map tD') := ⟨.inl (by simpa using h), .inr ⟨ks.map fun k => k.map .inr, by
  rw [List.map_map]
  refine List.map_congr_left fun k _ => ?_
  show PyData.tuple _ = PyData.tuple _
  rw [List.map_map]; rfl⟩⟩
/-- sorted -/
noncomputable def sortT (ks : List (List Str)) : List (List Str) := ks.mergeSort (dataLe false tD')
theorem srt_tDs (ks : List (List Str)) : srt (ks.map tD') = (sortT ks).map tD' := srt_map tD' ks
theorem dSorted_tDs {ks : List (List Str)} (hn : ∀ k ∈ ks, k ≠ []) : dSortedL (.list (ks.map tD')) = .ok (.list ((sortT ks).map tD')) := by
  unfold dSortedL
  dsimp only
  unfold dSorted
  dsimp only
  rw [if_pos (sortOk_tDs hn), srt_tDs]
open Classical in
noncomputable def uniqT : List (List Str) → List (List Str)
  | [] => []
  | d :: r => if d ∈ r then uniqT r else d :: uniqT r
theorem uniq_tDs : ∀ ks : List (List Str), uniq (ks.map tD') = (uniqT ks).map tD'
  | [] => rfl
  | x :: r => by
    have e : (tD' x ∈ r.map tD') ↔ x ∈ r := by
      rw [List.mem_map]
      exact ⟨fun ⟨y, hy, h⟩ => tD'_inj h ▸ hy, fun h => ⟨x, h, rfl⟩⟩
    rw [List.map_cons]
    unfold uniq uniqT
    by_cases h : x ∈ r
    · rw [if_pos (e.mpr h), if_pos h, uniq_tDs r]
    · rw [if_neg (fun z => h (e.mp z)), if_neg h, uniq_tDs r]; rfl
theorem mem_uniqT : ∀ {ks : List (List Str)} {x : List Str}, x ∈ uniqT ks ↔ x ∈ ks
  | [], x => Iff.rfl
  | y :: r, x => by
    unfold uniqT
    by_cases h : y ∈ r
    · rw [if_pos h, mem_uniqT, List.mem_cons]; exact ⟨.inr, fun z => z.elim (fun e => e ▸ h) id⟩
    · rw [if_neg h, List.mem_cons, List.mem_cons, mem_uniqT]
theorem nodup_uniqT : ∀ ks : List (List Str), (uniqT ks).Nodup
  | [] => List.nodup_nil
  | y :: r => by
    unfold uniqT
    by_cases h : y ∈ r
    · rw [if_pos h]; exact nodup_uniqT r
    · rw [if_neg h]; exact List.nodup_cons.mpr ⟨fun z => h (mem_uniqT.mp z), nodup_uniqT r⟩
theorem dSortedSet_tDs {ks : List (List Str)} (hn : ∀ k ∈ ks, k ≠ []) (h : ks.length < 64) : dSortedSet (.list (ks.map tD')) = .ok (.list ((sortT (uniqT ks)).map tD')) := by
  unfold dSortedSet
  dsimp only
  rw [if_pos ⟨setOk_tDs h, sortOk_tDs hn⟩, uniq_tDs, srt_tDs]
theorem dSortedSet_tDs2 {ks : List (List Str)} (hn : ∀ k ∈ ks, k ≠ []) (h : (uniqT ks).length < 63) : dSortedSet (.list (ks.map tD')) = .ok (.list ((sortT (uniqT ks)).map tD')) := by
  have ok : setOk (ks.map tD') := ⟨.inr (by rw [uniq_tDs, List.length_map]; exact h), .inr ⟨ks.map fun k => k.map .inr, by
    rw [List.map_map]
    refine List.map_congr_left fun k _ => ?_
    show PyData.tuple _ = PyData.tuple _
    rw [List.map_map]; rfl⟩⟩
  unfold dSortedSet
  dsimp only
  rw [if_pos ⟨ok, sortOk_tDs hn⟩, uniq_tDs, srt_tDs]
theorem sortT_perm (ks : List (List Str)) : (sortT ks).Perm ks := List.mergeSort_perm _ _
theorem leT_total : PySem.W.TotalLe (dataLe false tD') := PySem.W.sortLe_total (listOrd itemOrd) false fun b => PySem.W.keyToks (tD' b)
theorem leT_anti (a b : List Str) (h1 : dataLe false tD' a b = true) (h2 : dataLe false tD' b a = true) : a = b := by
  have e : ∀ x : List Str, x.map PyData.str = (x.map (Sum.inr : Str → Key)).map keyD := fun x => by rw [List.map_map]; rfl
  have e1 : lexLt itemOrd (PySem.W.keyToksAll (b.map PyData.str)) (PySem.W.keyToksAll (a.map PyData.str)) = false := by
    have : (!PySem.W.dataLt (tD' b) (tD' a)) = true := h1
    rw [PySem.W.dataLt_tuple] at this
    simpa using this
  have e2 : lexLt itemOrd (PySem.W.keyToksAll (a.map PyData.str)) (PySem.W.keyToksAll (b.map PyData.str)) = false := by
    have : (!PySem.W.dataLt (tD' a) (tD' b)) = true := h2
    rw [PySem.W.dataLt_tuple] at this
    simpa using this
  have t := (listOrd itemOrd).total _ _ e2 e1
  rw [e a, e b] at t
  exact List.map_inj_right (fun _ _ h => by injection h) |>.mp (keys_toks t)
theorem sortT_eq {xs ys : List (List Str)} (h1 : xs.Nodup) (h2 : ys.Nodup) (h : ∀ x, x ∈ xs ↔ x ∈ ys) : sortT xs = sortT ys := by
  have p : (sortT xs).Perm ys := (sortT_perm xs).trans ((List.perm_ext_iff_of_nodup h1 h2).mpr h)
  exact PySem.W.Srt.the_of_perm _ (fun x y z => leT_total.trans x y z) (fun x y => Bool.or_eq_true_iff.mpr (leT_total.total x y)) leT_anti p (PySem.W.sort_pairwise leT_total xs)
end PL
set_option Elab.async false
set_option linter.all false
set_option maxRecDepth 100000
set_option maxHeartbeats 1000000
/-! PM4: equality of data without truths. -/
namespace PL
open PySem PySem.Spec PyProof.Rows L2
mutual
/-- no truths and no dicts in it -/
def noB : D → Bool
  | .bool _ => false
  | .dict _ => false
  | .list xs => noBs xs
  | .tuple xs => noBs xs
  | _ => true
def noBs : List D → Bool
  | [] => true
  | d :: ds => noB d && noBs ds
end
mutual
theorem eqv_noB : ∀ {a b : D}, noB a = true → noB b = true → PyData.eqv a b = decide (a = b)
  | .none, b, _, hb => by cases b <;> simp_all [PyData.eqv, noB]
  | .int i, b, _, hb => by
    cases b with
    | int j => rw [PyData.eqv]; by_cases h : i = j <;> simp [h]
    | bool k => simp [noB] at hb
    | _ => simp [PyData.eqv]
  | .str x, b, _, hb => by
    cases b with
    | str y => simp
    | _ => simp [PyData.eqv]
  | .list xs, b, ha, hb => by
    cases b with
    | list ys =>
      rw [noB] at ha hb
      have := eqvs_noB (xs := xs) (ys := ys) ha hb
      simp [PyData.eqv, this]
    | _ => simp [PyData.eqv]
  | .tuple xs, b, ha, hb => by
    cases b with
    | tuple ys =>
      rw [noB] at ha hb
      have := eqvs_noB (xs := xs) (ys := ys) ha hb
      simp [PyData.eqv, this]
    | _ => simp [PyData.eqv]
  | .bool _, _, ha, _ => by simp [noB] at ha
  | .dict _, _, ha, _ => by simp [noB] at ha
theorem eqvs_noB : ∀ {xs ys : List D}, noBs xs = true → noBs ys = true → PyData.eqvAll xs ys = decide (xs = ys)
  | [], ys, _, _ => by cases ys <;> simp [PyData.eqvAll]
  | x :: xs, ys, ha, hb => by
    cases ys with
    | nil => simp [PyData.eqvAll]
    | cons y ys =>
      rw [noBs, Bool.and_eq_true] at ha hb
      rw [PySem.W.eqv_all_cons, eqv_noB ha.1 hb.1, eqvs_noB ha.2 hb.2]
      by_cases h1 : x = y <;> by_cases h2 : xs = ys <;> simp [h1, h2]
end
theorem noBs_iff : ∀ {xs : List D}, noBs xs = true ↔ ∀ d ∈ xs, noB d = true
  | [] => by simp [noBs]
  | d :: ds => by rw [noBs, Bool.and_eq_true, noBs_iff (xs := ds)]; simp
theorem noBs_map {α : Type} {enc : α → D} (h : ∀ x, noB (enc x) = true) (xs : List α) : noBs (xs.map enc) = true := noBs_iff.mpr fun d hd => by
  obtain ⟨x, _, rfl⟩ := List.mem_map.mp hd
  exact h x
@[simp] theorem noB_str (x : Str) : noB (.str x) = true := by simp [noB]
@[simp] theorem noB_int (i : Int) : noB (.int i) = true := by simp [noB]
@[simp] theorem noB_none : noB .none = true := by simp [noB]
@[simp] theorem noB_list (xs : List D) : noB (.list xs) = noBs xs := by rw [noB]
@[simp] theorem noB_tuple (xs : List D) : noB (.tuple xs) = noBs xs := by rw [noB]
@[simp] theorem noBs_nil : noBs [] = true := by rw [noBs]
@[simp] theorem noBs_cons (d : D) (ds : List D) : noBs (d :: ds) = (noB d && noBs ds) := by rw [noBs]
@[simp] theorem noBs_strs (xs : List Str) : noBs (xs.map PyData.str) = true := noBs_map (fun _ => noB_str _) xs
@[simp] theorem noB_pD (p : Str × Str) : noB (pD p) = true := by simp [pD]
@[simp] theorem noBs_pairs (E : List (Str × Str)) : noBs (E.map pD) = true := noBs_map noB_pD E
@[simp] theorem noBs_ints (xs : List Int) : noBs (xs.map PyData.int) = true := noBs_map (fun _ => noB_int _) xs
/-- depths -/
theorem depthAll_le {k : Nat} : ∀ {xs : List D}, (∀ d ∈ xs, d.depth ≤ k) → PyData.depthAll xs ≤ k
  | [], _ => by simp [PyData.depthAll]
  | d :: ds, h => by
    rw [PyData.depthAll]
    have h1 := h d (.head _)
    have h2 := depthAll_le (xs := ds) fun e he => h e (.tail _ he)
    omega
theorem depth_list_le {k : Nat} {xs : List D} (h : ∀ d ∈ xs, d.depth ≤ k) : (PyData.list xs).depth ≤ k + 1 := by
  rw [PyData.depth]; have := depthAll_le h; omega
theorem depth_tuple_le {k : Nat} {xs : List D} (h : ∀ d ∈ xs, d.depth ≤ k) : (PyData.tuple xs).depth ≤ k + 1 := by
  rw [PyData.depth]; have := depthAll_le h; omega
theorem noB_dict {a : D} (h : noB a = true) : isDict a = false := by cases a <;> simp_all [noB, isDict]
theorem dEq_noB {a b : D} (ha : noB a = true) (hb : noB b = true) (h : a.depth ≤ 64 ∨ b.depth ≤ 64) : dEq a b = .ok (.bool (decide (a = b))) := by
  unfold dEq
  rw [if_pos, eqv_noB ha hb]
  unfold near
  rw [noB_dict ha, noB_dict hb]
  simp; omega
theorem dNe_noB {a b : D} (ha : noB a = true) (hb : noB b = true) (h : a.depth ≤ 64 ∨ b.depth ≤ 64) : dNe a b = .ok (.bool (!decide (a = b))) := by
  unfold dNe
  rw [if_pos, eqv_noB ha hb]
  unfold near
  rw [noB_dict ha, noB_dict hb]
  simp; omega
theorem anyEq_noB {xs : List D} {d : D} (hx : noBs xs = true) (hd : noB d = true) : anyEq xs d = decide (d ∈ xs) := by
  unfold anyEq
  rw [noBs_iff] at hx
  by_cases h : d ∈ xs
  · rw [decide_eq_true h]
    exact List.any_eq_true.mpr ⟨d, h, by rw [eqv_noB hd hd]; simp⟩
  · rw [decide_eq_false h]
    refine Bool.eq_false_iff.mpr fun z => ?_
    obtain ⟨q, hq, e⟩ := List.any_eq_true.mp z
    rw [eqv_noB (hx q hq) hd] at e
    exact h ((of_decide_eq_true e) ▸ hq)
theorem dInP_noB {xs : List D} {d : D} (hx : noBs xs = true) (hd : noB d = true) (h : d.depth ≤ 64) : dInP d (.list xs) = .ok (decide (d ∈ xs)) ∧ dInP d (.tuple xs) = .ok (decide (d ∈ xs)) := by
  unfold dInP; dsimp only
  have : isDict d = false ∧ min (PyData.depthAll xs) d.depth ≤ 64 := ⟨noB_dict hd, by omega⟩
  constructor <;> rw [if_pos this, anyEq_noB hx hd]
theorem dInT_noB {xs : List D} {d : D} (hx : noBs xs = true) (hd : noB d = true) (h : d.depth ≤ 64) : dIn d (.tuple xs) = .ok (.bool (decide (d ∈ xs))) := by unfold dIn; rw [(dInP_noB hx hd h).2]; rfl
theorem dInL_noB {xs : List D} {d : D} (hx : noBs xs = true) (hd : noB d = true) (h : d.depth ≤ 64) : dIn d (.list xs) = .ok (.bool (decide (d ∈ xs))) := by unfold dIn; rw [(dInP_noB hx hd h).1]; rfl
theorem dNotInT_noB {xs : List D} {d : D} (hx : noBs xs = true) (hd : noB d = true) (h : d.depth ≤ 64) : dNotIn d (.tuple xs) = .ok (.bool (!decide (d ∈ xs))) := by unfold dNotIn; rw [(dInP_noB hx hd h).2]; rfl
theorem dNotInL_noB {xs : List D} {d : D} (hx : noBs xs = true) (hd : noB d = true) (h : d.depth ≤ 64) : dNotIn d (.list xs) = .ok (.bool (!decide (d ∈ xs))) := by unfold dNotIn; rw [(dInP_noB hx hd h).1]; rfl
end PL
set_option Elab.async false
set_option linter.all false
set_option maxRecDepth 100000
set_option maxHeartbeats 4000000
namespace W
open PySem PySem.Spec PyProof.Rows L2 PL

def topS (i : Nat) : Stmt := PySem.Challenge.pw_broadword_k30_whole_lean_tags.main.body.getD i (.Pass ⟨0, 0, 0, 0⟩)

abbrev s_up_from : Stmt := topS 1

abbrev s_above : Stmt := topS 3

abbrev s_chain : Stmt := topS 4

abbrev s_lean_tags : Stmt := topS 6

abbrev s_are_lean : Stmt := topS 7

abbrev s_word_of : Stmt := topS 10

abbrev s_plain : Stmt := topS 11

abbrev s_finds : Stmt := topS 12

abbrev s_places_of : Stmt := topS 13

abbrev s_reason : Stmt := topS 14

abbrev s__law_cell : Stmt := topS 16

abbrev s__law_draws : Stmt := topS 17

abbrev s__law_pool : Stmt := topS 18

abbrev s__law_mixed : Stmt := topS 19

abbrev s__law_up : Stmt := topS 20

abbrev s__law_book : Stmt := topS 21

abbrev s__law_a_book : Stmt := topS 22

abbrev s__law_ask : Stmt := topS 23

abbrev s__law_parts : Stmt := topS 24

abbrev s__law_an_ask : Stmt := topS 25

abbrev s__law_tags : Stmt := topS 26

abbrev s__law_rises : Stmt := topS 27

abbrev s__law_right : Stmt := topS 28

abbrev s_law : Stmt := topS 29

noncomputable def lb1_up_from : PL.Env → R Out := sSeq (sIf (tAndB (fTru (f2 dEq (fVar 5) (fVar 4))) (fTru (f2 dNotInD (fVar 6) (fVar 2))))
  (sSeq (sDPut 2 (fVar 6) (fC (.bool true)))
  (sApp 3 (fVar 6)))
  (sNext))
  (sForget [5, 6])
noncomputable def lb2_up_from : PL.Env → R Out := sSeq (sPop 3 4)
  (sSeq (sFor (iSeq (fVar 0)) (bTup (bCons (bName 5) (bCons (bName 6) (bNil)))) lb1_up_from)
  (sForget [4, 5, 6]))
noncomputable def g_up_from : PL.Env → R Out := sSeq (sSet 2 (fC (.dict [])))
  (sSeq (sSet 3 (fLst (fCons (fVar 1) (fNil))))
  (sSeq (sWhile (fTru (f2 dNe (fVar 3) (fLst (fNil)))) lb2_up_from)
  (sRetM 2)))
noncomputable def f_up_from : List D → R D := fnOut 7 g_up_from

noncomputable def g_above : PL.Env → R Out := sRet (f1 dSortedL (f1 dKeys (fCall f_up_from (fCons (f2 dItem (fVar 0) (fC (.int 1))) (fCons (fVar 1) (fNil))))))
noncomputable def f_above : List D → R D := fnOut 2 g_above

noncomputable def lb1_chain : PL.Env → R Out := sSeq (sIf (tAndB (fTru (f2 dEq (fVar 7) (fVar 6))) (fTru (f2 dNotInD (fVar 8) (fVar 3))))
  (sSeq (sDPut 3 (fVar 8) (f2 dAdd (f2 dGet (fVar 3) (fVar 6)) (fTup (fCons (fVar 8) (fNil)))))
  (sApp 5 (fVar 8)))
  (sNext))
  (sForget [7, 8])
noncomputable def lb2_chain : PL.Env → R Out := sSeq (sIf (fTru (f2 dEq (fVar 6) (fVar 2)))
  (sRet (f2 dGet (fVar 3) (fVar 6)))
  (sNext))
  (sSeq (sFor (iSeq (f2 dItem (fVar 0) (fC (.int 1)))) (bTup (bCons (bName 7) (bCons (bName 8) (bNil)))) lb1_chain)
  (sForget [7, 8, 6]))
noncomputable def lb3_chain : PL.Env → R Out := sSeq (sSet 5 (fLst (fNil)))
  (sSeq (sFor (iSeq (fVar 4)) (bName 6) lb2_chain)
  (sSeq (sKeep 5) (sSeq (sSet 4 (fVar 5))
  (sForget [5, 6, 7, 8]))))
noncomputable def g_chain : PL.Env → R Out := sSeq (sSet 3 (fDisp (pCons (fVar 1) (fTup (fCons (fVar 1) (fNil))) (pNil))))
  (sSeq (sSet 4 (fLst (fCons (fVar 1) (fNil))))
  (sSeq (sWhile (fTru (f2 dNe (fVar 4) (fLst (fNil)))) lb3_chain)
  (sRet (fC .none))))
noncomputable def f_chain : List D → R D := fnOut 9 g_chain

noncomputable def ci1_lean_tags : PL.Env → R (List D) := iSeq (fCall f_above (fCons (fVar 0) (fCons (fVar 3) (fNil))))
noncomputable def ck1_lean_tags : PL.Env → R D := fVar 4
noncomputable def cv1_lean_tags : PL.Env → R D := fC (.bool true)
noncomputable def ct1_lean_tags : PL.Env → R Bool := fTru (f2 dNotInD (fVar 3) (fVar 2))
noncomputable def ce1_lean_tags : PL.Env → R D := fVar 3
noncomputable def g_lean_tags : PL.Env → R Out := sSeq (sSet 2 (fDc2 [3, 4] (iSeq (fVar 1)) (bName 3) (tYes') (ci1_lean_tags) [4] (bName 4) (tYes') (ck1_lean_tags) (cv1_lean_tags)))
  (sRet (f1 dTuple (fLc [3] (iSeq (fVar 1)) (bName 3) (ct1_lean_tags) (ce1_lean_tags))))
noncomputable def f_lean_tags : List D → R D := fnOut 5 g_lean_tags

noncomputable def g_are_lean : PL.Env → R Out := sRet (f2 dEq (fCall f_lean_tags (fCons (fVar 0) (fCons (fVar 1) (fNil)))) (fVar 1))
noncomputable def f_are_lean : List D → R D := fnOut 2 g_are_lean

noncomputable def ck1_word_of : PL.Env → R D := fVar 2
noncomputable def cv1_word_of : PL.Env → R D := fVar 3
noncomputable def g_word_of : PL.Env → R Out := sSeq (sIf (fTru (f2 dIn (fVar 1) (f2 dItem (fVar 0) (fC (.int 0)))))
  (sRet (fVar 1))
  (sNext))
  (sRet (fGet2 (fDc [2, 3] (iSeq (f2 dItem (fVar 0) (fC (.int 3)))) (bTup (bCons (bName 2) (bCons (bName 3) (bNil)))) (tYes') (ck1_word_of) (cv1_word_of)) (fVar 1) (fC .none)))
noncomputable def f_word_of : List D → R D := fnOut 4 g_word_of

noncomputable def ce1_plain (self_ : List D → R D) : PL.Env → R D := fCall self_ (fCons (fVar 0) (fCons (fVar 4) (fNil)))
noncomputable def g_plain (self_ : List D → R D) : PL.Env → R Out := sSeq (sIf (fTru (f2 dIn (f2 dItem (fVar 1) (fC (.int 0))) (fC (.tuple [.str "only", .str "under", .str "by"]))))
  (sRet (fTup (fCons (f2 dItem (fVar 1) (fC (.int 0))) (fCons (fCall f_word_of (fCons (fVar 0) (fCons (f2 dItem (fVar 1) (fC (.int 1))) (fNil)))) (fNil)))))
  (sNext))
  (sSeq (sStar 2 3 (fVar 1))
  (sSeq (sKeep 3) (sRet (f2 dAdd (fTup (fCons (fVar 2) (fNil))) (f1 dTuple (fLc [4] (iSeq (fVar 3)) (bName 4) (tYes') ((ce1_plain self_))))))))
noncomputable def fn_plain : Nat → List D → R D
  | 0 => fun _ => .bad
  | n + 1 => fnOut 5 (g_plain (fn_plain n))
noncomputable def f_plain : List D → R D := fn_plain 30

noncomputable def ce1_finds (self_ : List D → R D) : PL.Env → R D := fOr (f2 dEq (fVar 7) (f2 dItem (fVar 5) (fC (.int 0)))) (f2 dIn (f2 dItem (fVar 5) (fC (.int 0))) (fCall f_above (fCons (fVar 0) (fCons (fVar 7) (fNil)))))
noncomputable def ct1_finds (self_ : List D → R D) : PL.Env → R Bool := fTru (f2 dIn (f2 dItem (fVar 5) (fC (.int 0))) (fVar 6))
noncomputable def ce2_finds (self_ : List D → R D) : PL.Env → R D := fVar 6
noncomputable def ce3_finds (self_ : List D → R D) : PL.Env → R D := f2 dIn (fVar 7) (fVar 6)
noncomputable def ci1_finds (self_ : List D → R D) : PL.Env → R (List D) := iSeq (fVar 4)
noncomputable def g_finds (self_ : List D → R D) : PL.Env → R Out := sSeq (sStar 3 5 (fVar 2))
  (sSeq (sIf (fTru (f2 dEq (fVar 3) (fC (.str "all"))))
  (sRet (fC (.bool true)))
  (sNext))
  (sSeq (sIf (fTru (f2 dEq (fVar 3) (fC (.str "only"))))
  (sRet (f2 dIn (f2 dItem (fVar 5) (fC (.int 0))) (fVar 1)))
  (sNext))
  (sSeq (sIf (fTru (f2 dEq (fVar 3) (fC (.str "under"))))
  (sRet (f1 dAny (fLc [7] (iSeq (fVar 1)) (bName 7) (tYes') ((ce1_finds self_)))))
  (sNext))
  (sSeq (sIf (fTru (f2 dEq (fVar 3) (fC (.str "by"))))
  (sSeq (sSet 4 (fLc [6] (iSeq (f2 dItem (fVar 0) (fC (.int 2)))) (bName 6) ((ct1_finds self_)) ((ce2_finds self_))))
  (sRet (fOr (f2 dIn (f2 dItem (fVar 5) (fC (.int 0))) (fVar 1)) (f1 dAny (fLc2 [7, 6] (iSeq (fVar 1)) (bName 7) (tYes') ((ci1_finds self_)) [6] (bName 6) (tYes') ((ce3_finds self_)))))))
  (sNext))
  (sSeq (sIf (fTru (f2 dEq (fVar 3) (fC (.str "not"))))
  (sRet (fNot (fCall self_ (fCons (fVar 0) (fCons (fVar 1) (fCons (f2 dItem (fVar 5) (fC (.int 0))) (fNil)))))))
  (sNext))
  (sSeq (sIf (fTru (f2 dEq (fVar 3) (fC (.str "and"))))
  (sRet (fAnd (fCall self_ (fCons (fVar 0) (fCons (fVar 1) (fCons (f2 dItem (fVar 5) (fC (.int 0))) (fNil))))) (fCall self_ (fCons (fVar 0) (fCons (fVar 1) (fCons (f2 dItem (fVar 5) (fC (.int 1))) (fNil)))))))
  (sNext))
  (sRet (fOr (fCall self_ (fCons (fVar 0) (fCons (fVar 1) (fCons (f2 dItem (fVar 5) (fC (.int 0))) (fNil))))) (fCall self_ (fCons (fVar 0) (fCons (fVar 1) (fCons (f2 dItem (fVar 5) (fC (.int 1))) (fNil)))))))))))))
noncomputable def fn_finds : Nat → List D → R D
  | 0 => fun _ => .bad
  | n + 1 => fnOut 8 (g_finds (fn_finds n))
noncomputable def f_finds : List D → R D := fn_finds 30

noncomputable def ct1_places_of : PL.Env → R Bool := fTru (fCall f_finds (fCons (fVar 0) (fCons (fVar 5) (fCons (fVar 3) (fNil)))))
noncomputable def ce1_places_of : PL.Env → R D := fVar 4
noncomputable def g_places_of : PL.Env → R Out := sSeq (sSet 3 (fCall f_plain (fCons (fVar 0) (fCons (fVar 2) (fNil)))))
  (sRet (fLc [4, 5] (iEnum (fVar 1)) (bTup (bCons (bName 4) (bCons (bName 5) (bNil)))) (ct1_places_of) (ce1_places_of)))
noncomputable def f_places_of : List D → R D := fnOut 6 g_places_of

noncomputable def ce1_reason : PL.Env → R D := fCall f_chain (fCons (fVar 0) (fCons (fVar 4) (fCons (fCall f_word_of (fCons (fVar 0) (fCons (fVar 2) (fNil)))) (fNil))))
noncomputable def ct1_reason : PL.Env → R Bool := fTru (f2 dIsNot (fVar 5) (fC .none))
noncomputable def ce2_reason : PL.Env → R D := fVar 5
noncomputable def g_reason : PL.Env → R Out := sSeq (sSet 3 (fLc [4] (iSeq (fVar 1)) (bName 4) (tYes') (ce1_reason)))
  (sRet (f2 dItem (f2 dAdd (fLc [5] (iSeq (fVar 3)) (bName 5) (ct1_reason) (ce2_reason)) (fLst (fCons (fC .none) (fNil)))) (fC (.int 0))))
noncomputable def f_reason : List D → R D := fnOut 6 g_reason

noncomputable def g__law_cell : PL.Env → R Out := sSeq (sIf (fTru (f2 dLt (fVar 1) (f1 dLen (fVar 0))))
  (sRet (f2 dItem (fVar 0) (fVar 1)))
  (sNext))
  (sSeq (sIf (fTru (f2 dEq (f1 dLen (fVar 0)) (fC (.int 0))))
  (sRet (f2 dAdd (f2 dMul (fC (.int 7919)) (fVar 1)) (fC (.int 101))))
  (sNext))
  (sRet (f2 dAdd (f2 dMod (f2 dItem (fVar 0) (f2 dMod (fVar 1) (f1 dLen (fVar 0)))) (fC (.int 1000003))) (f2 dMul (fC (.int 7919)) (fVar 1)))))
noncomputable def f__law_cell : List D → R D := fnOut 2 g__law_cell

noncomputable def lb1__law_draws : PL.Env → R Out := sSeq (sSet 9 (f2 dMul (f2 dMod (fVar 5) (f2 dItem (fVar 4) (f2 dMod (fVar 8) (fC (.int 8))))) (f2 dAdd (fC (.int 48271)) (f2 dMul (f2 dMul (fC (.int 2)) (fVar 8)) (fVar 8)))))
  (sSeq (sSet 9 (f2 dAdd (f2 dAdd (fVar 9) (f2 dMul (f2 dMul (fC (.int 7919)) (f2 dAdd (fVar 8) (fC (.int 1)))) (f2 dAdd (fVar 8) (fC (.int 1))))) (f2 dMul (fC (.int 104729)) (fVar 1))))
  (sSeq (sSet 9 (f2 dMod (fVar 9) (f2 dItem (fVar 4) (f2 dMod (f2 dAdd (f2 dMul (fC (.int 3)) (fVar 8)) (fVar 1)) (fC (.int 8))))))
  (sSeq (sSet 9 (f2 dMod (f2 dMul (f2 dMul (fVar 9) (fVar 9)) (fVar 9)) (f2 dItem (fVar 4) (f2 dMod (f2 dAdd (fVar 8) (fC (.int 5))) (fC (.int 8))))))
  (sSeq (sIf (fTru (f2 dGt (fVar 6) (fC (.int 0))))
  (sSet 9 (fVar 6))
  (sNext))
  (sSeq (sApp 7 (f2 dMod (fVar 9) (fVar 3)))
  (sSeq (sSet 6 (f2 dFdiv (fVar 6) (fVar 3)))
  (sForget [9, 8])))))))
noncomputable def g__law_draws : PL.Env → R Out := sSeq (sSet 4 (fTup (fCons (fC (.int 2147483647)) (fCons (fC (.int 2147483629)) (fCons (fC (.int 2147483587)) (fCons (fC (.int 2147483579)) (fCons (fC (.int 2147483563)) (fCons (fC (.int 2147483549)) (fCons (fC (.int 2147483543)) (fCons (fC (.int 2147483497)) (fNil)))))))))))
  (sSeq (sSet 5 (fCall f__law_cell (fCons (fVar 0) (fCons (fVar 1) (fNil)))))
  (sSeq (sSet 6 (fC (.int 0)))
  (sSeq (sIf (fTru (f2 dGe (fVar 5) (f2 dPow (fC (.int 10)) (fC (.int 18)))))
  (sSet 6 (fVar 5))
  (sNext))
  (sSeq (sSet 7 (fLst (fNil)))
  (sSeq (sFor (iRange (fVar 2)) (bName 8) lb1__law_draws)
  (sRetL 7))))))
noncomputable def f__law_draws : List D → R D := fnOut 10 g__law_draws

noncomputable def g__law_pool : PL.Env → R Out := sRet (fLst (fCons (fC (.str "ape")) (fCons (fC (.str "bee")) (fCons (fC (.str "cat")) (fCons (fC (.str "dog")) (fCons (fC (.str "elk")) (fCons (fC (.str "fox")) (fCons (fC (.str "gnu")) (fCons (fC (.str "hen")) (fCons (fC (.str "ibis")) (fCons (fC (.str "jay")) (fCons (fC (.str "kiwi")) (fCons (fC (.str "z")) (fNil))))))))))))))
noncomputable def f__law_pool : List D → R D := fnOut 0 g__law_pool

noncomputable def g__law_mixed : PL.Env → R Out := sSeq (sSet 2 (f1 dList (fVar 0)))
  (sRetPop 2 [3] (iRange (f1 dLen (fVar 0))) (bName 3) (f2 dMod (f2 dItem (fVar 1) (f2 dMod (fVar 3) (f1 dLen (fVar 1)))) (f1 dLen (fVar 2))))
noncomputable def f__law_mixed : List D → R D := fnOut 4 g__law_mixed

noncomputable def ct1__law_up : PL.Env → R Bool := fTru (f2 dEq (f2 dItem (fVar 6) (fC (.int 0))) (fVar 4))
noncomputable def ce1__law_up : PL.Env → R D := f2 dItem (fVar 6) (fC (.int 1))
noncomputable def ct2__law_up : PL.Env → R Bool := fTru (f2 dNotIn (fVar 7) (fVar 2))
noncomputable def ce2__law_up : PL.Env → R D := fVar 7
noncomputable def lb1__law_up : PL.Env → R Out := sSeq (sPop 3 4)
  (sSeq (sSet 5 (fLc [6] (iSeq (fVar 0)) (bName 6) (ct1__law_up) (ce1__law_up)))
  (sSeq (sSet 5 (fLc [7] (iSeq (fVar 5)) (bName 7) (ct2__law_up) (ce2__law_up)))
  (sSeq (sSet 2 (f2 dAdd (fVar 2) (fVar 5)))
  (sSeq (sSet 3 (f2 dAddL (fVar 3) (fVar 5)))
  (sForget [4, 5])))))
noncomputable def g__law_up : PL.Env → R Out := sSeq (sSet 2 (fLst (fNil)))
  (sSeq (sSet 3 (fLst (fCons (fVar 1) (fNil))))
  (sSeq (sWhile (fTru (f2 dNe (fVar 3) (fLst (fNil)))) lb1__law_up)
  (sRet (f1 dSortedSet (fVar 2)))))
noncomputable def f__law_up : List D → R D := fnOut 8 g__law_up

noncomputable def lb1__law_book : PL.Env → R Out := sSeq (sSet 7 (f2 dMod (f2 dItem (fVar 0) (f2 dAdd (fC (.int 9)) (fVar 3))) (f1 dLen (fVar 2))))
  (sSeq (sSet 8 (f2 dMod (f2 dFdiv (f2 dItem (fVar 0) (f2 dAdd (fC (.int 9)) (fVar 3))) (fC (.int 9))) (f1 dLen (fVar 2))))
  (sSeq (sIf (fTru (f2 dLt (fVar 7) (fVar 8)))
  (sApp 4 (fTup (fCons (f2 dItem (fVar 2) (fVar 7)) (fCons (f2 dItem (fVar 2) (fVar 8)) (fNil)))))
  (sNext))
  (sForget [7, 8, 3])))
noncomputable def lb2__law_book : PL.Env → R Out := sSeq (sSet 7 (f2 dItem (fVar 2) (fVar 3)))
  (sSeq (sSet 8 (f2 dItem (fVar 2) (f2 dMod (f2 dItem (fVar 0) (f2 dAdd (fC (.int 30)) (fVar 3))) (f1 dLen (fVar 2)))))
  (sSeq (sSet 9 (fAnd (f2 dNotIn (fVar 8) (fCall f__law_up (fCons (fVar 4) (fCons (fVar 7) (fNil))))) (f2 dNotIn (fVar 7) (fCall f__law_up (fCons (fVar 4) (fCons (fVar 8) (fNil)))))))
  (sSeq (sIf (tAndB (fTru (f2 dLt (fVar 7) (fVar 8))) (tAndB (fTru (fVar 9)) (fTru (f2 dGt (f2 dMod (f2 dFdiv (f2 dItem (fVar 0) (f2 dAdd (fC (.int 30)) (fVar 3))) (fC (.int 9))) (fC (.int 3))) (fC (.int 0))))))
  (sApp 5 (fTup (fCons (fVar 7) (fCons (fVar 8) (fNil)))))
  (sNext))
  (sForget [7, 8, 9, 3]))))
noncomputable def lb3__law_book : PL.Env → R Out := sSeq (sApp 6 (fTup (fCons (f2 dItem (fCall f__law_pool fNil) (f2 dAdd (fC (.int 8)) (fVar 3))) (fCons (f2 dItem (fVar 2) (f2 dMod (f2 dItem (fVar 0) (f2 dAdd (fC (.int 41)) (fVar 3))) (f1 dLen (fVar 2)))) (fNil)))))
  (sForget [3])
noncomputable def g__law_book : PL.Env → R Out := sSeq (sSet 2 (fSl (fCall f__law_mixed (fCons (fSl (fCall f__law_pool fNil) (oNone) (oSome (fC (.int 8)))) (fCons (fVar 0) (fNil)))) (oNone) (oSome (f2 dMod (f2 dItem (fVar 0) (fC (.int 8))) (f2 dAdd (fVar 1) (fC (.int 1)))))))
  (sSeq (sPar3 4 5 6 (fLst (fNil)) (fLst (fNil)) (fLst (fNil)))
  (sSeq (sFor (iRange (f2 dMul (f1 dLen (fVar 2)) (fC (.int 2)))) (bName 3) lb1__law_book)
  (sSeq (sKeep 4) (sSeq (sFor (iRange (f1 dLen (fVar 2))) (bName 3) lb2__law_book)
  (sSeq (sFor (iRange (fIf (fTru (f2 dNe (fVar 2) (fLst (fNil)))) (f2 dMod (f2 dItem (fVar 0) (fC (.int 40))) (fC (.int 4))) (fC (.int 0)))) (bName 3) lb3__law_book)
  (sRet (fTup (fCons (f1 dTuple (f1 dSortedL (fVar 2))) (fCons (f1 dTuple (f1 dSortedSet (fVar 4))) (fCons (f1 dTuple (f1 dSortedSet (fVar 5))) (fCons (f1 dTuple (fVar 6)) (fNil))))))))))))
noncomputable def f__law_book : List D → R D := fnOut 10 g__law_book

noncomputable def g__law_a_book : PL.Env → R Out := sRet (fCall f__law_book (fCons (fCall f__law_draws (fCons (fVar 0) (fCons (fVar 1) (fCons (fC (.int 50)) (fCons (fC (.int 27720)) (fNil)))))) (fCons (fVar 2) (fNil))))
noncomputable def f__law_a_book : List D → R D := fnOut 3 g__law_a_book

noncomputable def ce1__law_ask (self_ : List D → R D) : PL.Env → R D := f2 dItem (fVar 6) (fC (.int 0))
noncomputable def g__law_ask (self_ : List D → R D) : PL.Env → R Out := sSeq (sSet 3 (f2 dAdd (f1 dList (f2 dItem (fVar 0) (fC (.int 0)))) (fLc [6] (iSeq (f2 dItem (fVar 0) (fC (.int 3)))) (bName 6) (tYes') ((ce1__law_ask self_)))))
  (sSeq (sSet 4 (f2 dMod (f2 dItem (fVar 1) (fC (.int 0))) (fC (.int 7))))
  (sSeq (sIf (tOrB (fTru (f2 dEq (fVar 3) (fLst (fNil)))) (tOrB (tAndB (fTru (f2 dGt (fVar 2) (fC (.int 2)))) (fTru (f2 dGt (fVar 4) (fC (.int 3))))) (fTru (f2 dEq (fVar 4) (fC (.int 0))))))
  (sRet (fIf (tOrB (fTru (f2 dEq (fVar 3) (fLst (fNil)))) (fTru (f2 dEq (f2 dMod (f2 dFdiv (f2 dItem (fVar 1) (fC (.int 0))) (fC (.int 7))) (fC (.int 3))) (fC (.int 0))))) (fTup (fCons (fC (.str "all")) (fNil))) (fTup (fCons (fC (.str "under")) (fCons (f2 dItem (fVar 3) (f2 dMod (f2 dItem (fVar 1) (fC (.int 1))) (f1 dLen (fVar 3)))) (fNil))))))
  (sNext))
  (sSeq (sIf (fTru (f2 dLt (fVar 4) (fC (.int 4))))
  (sRet (fTup (fCons (f2 dItem (fLst (fCons (fC (.str "only")) (fCons (fC (.str "under")) (fCons (fC (.str "by")) (fNil))))) (f2 dSub (fVar 4) (fC (.int 1)))) (fCons (f2 dItem (fVar 3) (f2 dMod (f2 dItem (fVar 1) (fC (.int 1))) (f1 dLen (fVar 3)))) (fNil)))))
  (sNext))
  (sSeq (sIf (fTru (f2 dEq (fVar 4) (fC (.int 4))))
  (sRet (fTup (fCons (fC (.str "not")) (fCons (fCall self_ (fCons (fVar 0) (fCons (fSl (fVar 1) (oSome (fC (.int 1))) (oNone)) (fCons (f2 dAdd (fVar 2) (fC (.int 1))) (fNil))))) (fNil)))))
  (sNext))
  (sSeq (sSet 5 (f2 dFdiv (f1 dLen (fVar 1)) (fC (.int 2))))
  (sRet (fTup (fCons (f2 dItem (fLst (fCons (fC (.str "and")) (fCons (fC (.str "or")) (fNil)))) (f2 dSub (fVar 4) (fC (.int 5)))) (fCons (fCall self_ (fCons (fVar 0) (fCons (fSl (fVar 1) (oSome (fC (.int 1))) (oNone)) (fCons (f2 dAdd (fVar 2) (fC (.int 1))) (fNil))))) (fCons (fCall self_ (fCons (fVar 0) (fCons (fSl (fVar 1) (oSome (fVar 5)) (oNone)) (fCons (f2 dAdd (fVar 2) (fC (.int 1))) (fNil))))) (fNil)))))))))))
noncomputable def fn__law_ask : Nat → List D → R D
  | 0 => fun _ => .bad
  | n + 1 => fnOut 7 (g__law_ask (fn__law_ask n))
noncomputable def f__law_ask : List D → R D := fn__law_ask 30

noncomputable def ct1__law_parts (self_ : List D → R D) : PL.Env → R Bool := fTru (f1 (dIsi "tuple") (fVar 1))
noncomputable def ce1__law_parts (self_ : List D → R D) : PL.Env → R D := fCall self_ (fCons (fVar 1) (fNil))
noncomputable def g__law_parts (self_ : List D → R D) : PL.Env → R Out := sRet (f2 dAdd (fC (.int 1)) (f1 dSum (fLc [1] (iSeq (fSl (fVar 0) (oSome (fC (.int 1))) (oNone))) (bName 1) ((ct1__law_parts self_)) ((ce1__law_parts self_)))))
noncomputable def fn__law_parts : Nat → List D → R D
  | 0 => fun _ => .bad
  | n + 1 => fnOut 2 (g__law_parts (fn__law_parts n))
noncomputable def f__law_parts : List D → R D := fn__law_parts 30

noncomputable def lb1__law_an_ask : PL.Env → R Out := sSet 2 (f2 dItem (fVar 2) (fC (.int 1)))
noncomputable def g__law_an_ask : PL.Env → R Out := sSeq (sSet 2 (fCall f__law_ask (fCons (fVar 0) (fCons (fVar 1) (fCons (fC (.int 0)) (fNil))))))
  (sSeq (sWhile (fTru (f2 dGt (fCall f__law_parts (fCons (fVar 2) (fNil))) (fC (.int 8)))) lb1__law_an_ask)
  (sRet (fVar 2)))
noncomputable def f__law_an_ask : List D → R D := fnOut 3 g__law_an_ask

noncomputable def lb1__law_tags : PL.Env → R Out := sSeq (sSet 2 (f2 dAdd (fVar 2) (f2 dMul (fLst (fCons (fVar 3) (fNil))) (f2 dMod (fVar 1) (fC (.int 2))))))
  (sSeq (sSet 1 (f2 dFdiv (fVar 1) (fC (.int 2))))
  (sForget [3]))
noncomputable def g__law_tags : PL.Env → R Out := sSeq (sSet 2 (fLst (fNil)))
  (sSeq (sFor (iSeq (f2 dItem (fVar 0) (fC (.int 0)))) (bName 3) lb1__law_tags)
  (sRet (f1 dTuple (fVar 2))))
noncomputable def f__law_tags : List D → R D := fnOut 4 g__law_tags

noncomputable def ce1__law_rises (self_ : List D → R D) : PL.Env → R D := fCall self_ (fCons (fVar 1) (fNil))
noncomputable def g__law_rises (self_ : List D → R D) : PL.Env → R Out := sSeq (sIf (fTru (f2 dIn (f2 dItem (fVar 0) (fC (.int 0))) (fTup (fCons (fC (.str "only")) (fCons (fC (.str "by")) (fNil))))))
  (sRet (fC (.bool false)))
  (sNext))
  (sRet (fOr (f2 dIn (f2 dItem (fVar 0) (fC (.int 0))) (fTup (fCons (fC (.str "all")) (fCons (fC (.str "under")) (fNil))))) (f1 dAll (fLc [1] (iSeq (fSl (fVar 0) (oSome (fC (.int 1))) (oNone))) (bName 1) (tYes') ((ce1__law_rises self_))))))
noncomputable def fn__law_rises : Nat → List D → R D
  | 0 => fun _ => .bad
  | n + 1 => fnOut 2 (g__law_rises (fn__law_rises n))
noncomputable def f__law_rises : List D → R D := fn__law_rises 30

noncomputable def ct1__law_right : PL.Env → R Bool := fTru (f2 dIn (fVar 5) (fCall f__law_up (fCons (f2 dItem (fVar 0) (fC (.int 1))) (fCons (fVar 10) (fNil)))))
noncomputable def ce1__law_right : PL.Env → R D := fVar 10
noncomputable def lb1__law_right : PL.Env → R Out := sSeq (sSet 7 (fLc [10] (iSeq (fVar 1)) (bName 10) (ct1__law_right) (ce1__law_right)))
  (sSeq (sSet 4 (f2 dAdd (fVar 4) (f2 dMul (fLst (fCons (fVar 5) (fNil))) (f1 dInt (f2 dEq (fVar 7) (fLst (fNil)))))))
  (sForget [7, 5]))
noncomputable def ct2__law_right : PL.Env → R Bool := fTru (f2 dIn (fVar 5) (fCall f__law_up (fCons (f2 dItem (fVar 0) (fC (.int 1))) (fCons (fVar 11) (fNil)))))
noncomputable def ce2__law_right : PL.Env → R D := fVar 11
noncomputable def lb2__law_right : PL.Env → R Out := sSeq (sIf (tAndB (fTru (f2 dNotIn (fVar 5) (fVar 3))) (fTru (f2 dEq (fLc [11] (iSeq (fVar 3)) (bName 11) (ct2__law_right) (ce2__law_right)) (fLst (fNil)))))
  (sRet (fC (.bool false)))
  (sNext))
  (sSeq (sIf (fTru (f2 dNe (f2 dIs (fCall f_reason (fCons (fVar 0) (fCons (fVar 1) (fCons (fVar 5) (fNil))))) (fC .none)) (f2 dIs (fCall f_reason (fCons (fVar 0) (fCons (fVar 3) (fCons (fVar 5) (fNil))))) (fC .none))))
  (sRet (fC (.bool false)))
  (sNext))
  (sForget [5]))
noncomputable def ce3__law_right : PL.Env → R D := fCall f_places_of (fCons (fVar 0) (fCons (fLst (fCons (fVar 9) (fNil))) (fCons (fVar 2) (fNil))))
noncomputable def ct3__law_right : PL.Env → R Bool := fTru (f2 dNe (fVar 11) (fVar 5))
noncomputable def ce4__law_right : PL.Env → R D := fVar 11
noncomputable def ct4__law_right : PL.Env → R Bool := fTru (f2 dIn (fVar 5) (fCall f__law_up (fCons (f2 dItem (fVar 0) (fC (.int 1))) (fCons (fVar 11) (fNil)))))
noncomputable def ce5__law_right : PL.Env → R D := fVar 11
noncomputable def lb3__law_right : PL.Env → R Out := sSeq (sSet 8 (f1 dTuple (fLc [11] (iSeq (fVar 3)) (bName 11) (ct3__law_right) (ce4__law_right))))
  (sSeq (sIf (tOrB (fTru (f2 dNe (fLc [11] (iSeq (fVar 8)) (bName 11) (ct4__law_right) (ce5__law_right)) (fLst (fNil)))) (fTru (f2 dNe (fCall f_lean_tags (fCons (fVar 0) (fCons (fVar 8) (fNil)))) (fVar 8))))
  (sRet (fC (.bool false)))
  (sNext))
  (sForget [8, 5]))
noncomputable def g__law_right : PL.Env → R Out := sSeq (sSet 3 (fCall f_lean_tags (fCons (fVar 0) (fCons (fVar 1) (fNil)))))
  (sSeq (sSet 4 (fLst (fNil)))
  (sSeq (sFor (iSeq (fVar 1)) (bName 5) lb1__law_right)
  (sSeq (sIf (tOrB (fTru (f2 dNe (fVar 3) (f1 dTuple (fVar 4)))) (tOrB (fTru (f2 dNe (fCall f_are_lean (fCons (fVar 0) (fCons (fVar 1) (fNil)))) (f2 dEq (fVar 3) (fVar 1)))) (fTru (f2 dNe (fCall f_lean_tags (fCons (fVar 0) (fCons (fVar 3) (fNil)))) (fVar 3)))))
  (sRet (fC (.bool false)))
  (sNext))
  (sSeq (sFor (iSeq (fVar 1)) (bName 5) lb2__law_right)
  (sSeq (sSet 6 (fLc [9] (iSeq (fTup (fCons (fVar 1) (fCons (fVar 3) (fNil))))) (bName 9) (tYes') (ce3__law_right)))
  (sSeq (sIf (tAndB (fTru (fCall f__law_rises (fCons (fVar 2) (fNil)))) (fTru (f2 dNe (f2 dItem (fVar 6) (fC (.int 0))) (f2 dItem (fVar 6) (fC (.int 1))))))
  (sRet (fC (.bool false)))
  (sNext))
  (sSeq (sFor (iSeq (fVar 3)) (bName 5) lb3__law_right)
  (sRet (f2 dIs (fCall f_are_lean (fCons (fVar 0) (fCons (fVar 3) (fNil)))) (fC (.bool true)))))))))))
noncomputable def f__law_right : List D → R D := fnOut 12 g__law_right

noncomputable def lb1_law : PL.Env → R Out := sSeq (sSet 5 (fCall f__law_tags (fCons (fVar 2) (fCons (f2 dItem (fVar 3) (fVar 4)) (fNil)))))
  (sSeq (sSet 6 (fCall f__law_an_ask (fCons (fVar 2) (fCons (f2 dAdd (fSl (fVar 3) (oSome (f2 dMul (fC (.int 4)) (fVar 4))) (oNone)) (fSl (fVar 3) (oNone) (oSome (f2 dMul (fC (.int 4)) (fVar 4))))) (fNil)))))
  (sSeq (sSet 7 (fTup (fCons (fC (.str "all")) (fNil))))
  (sSeq (sIf (fTru (f2 dNe (f2 dItem (fVar 2) (fC (.int 0))) (fTup (fNil))))
  (sSet 7 (fTup (fCons (fC (.str "under")) (fCons (f2 dItem (f2 dItem (fVar 2) (fC (.int 0))) (f2 dMod (f2 dItem (fVar 3) (fVar 4)) (f1 dLen (f2 dItem (fVar 2) (fC (.int 0)))))) (fNil)))))
  (sNext))
  (sSeq (sIf (tOrB (tNotB (fTru (fCall f__law_right (fCons (fVar 2) (fCons (fVar 5) (fCons (fVar 6) (fNil))))))) (tNotB (fTru (fCall f__law_right (fCons (fVar 2) (fCons (fVar 5) (fCons (fVar 7) (fNil))))))))
  (sRet (fC (.bool false)))
  (sNext))
  (sForget [5, 6, 7, 4])))))
noncomputable def lb2_law : PL.Env → R Out := sSeq (sSet 2 (fCall f__law_a_book (fCons (fVar 0) (fCons (fVar 1) (fCons (fC (.int 8)) (fNil))))))
  (sSeq (sSet 3 (fCall f__law_draws (fCons (fVar 0) (fCons (f2 dAdd (fVar 1) (fC (.int 1))) (fCons (fC (.int 60)) (fCons (fC (.int 27720)) (fNil)))))))
  (sSeq (sFor (iRange (fC (.int 12))) (bName 4) lb1_law)
  (sSeq (sIf (tNotB (fTru (fCall f__law_right (fCons (fVar 2) (fCons (f2 dItem (fVar 2) (fC (.int 0))) (fCons (fTup (fCons (fC (.str "all")) (fNil))) (fNil)))))))
  (sRet (fC (.bool false)))
  (sNext))
  (sForget [2, 3, 4, 5, 6, 7, 1]))))
noncomputable def g_law : PL.Env → R Out := sSeq (sFor (iSeq (fTup (fCons (fC (.int 0)) (fCons (fC (.int 2)) (fCons (fC (.int 4)) (fNil)))))) (bName 1) lb2_law)
  (sRet (fC (.bool true)))
noncomputable def f_law : List D → R D := fnOut 8 g_law

section
variable {P : Program} {w : World} {K : PySem.W.Frag} {mg : Str → Option Value} {base : Heap}

theorem sc_up_from : FnScope ["broads", "name", "found", "row", "here", "low", "high"] ["broads", "name"] (defScope s_up_from) := ⟨rfl, rfl, rfl, by decide +kernel, rfl, by decide +kernel, by decide +kernel⟩
theorem ok_up_from (d : DefIn K mg "up_from" s_up_from ["broads", "name"]) (B : Blt mg) : Cal P w K mg base "up_from" 1 [.imm, .imm] rM f_up_from :=
  d.cal (N := ["broads", "name", "found", "row", "here", "low", "high"]) (m := 5) sc_up_from rfl rfl good_M (.inr (nn_start (by unfold g_up_from; repeat (first | exact nn_ret | exact nn_retL | exact nn_retM | exact nn_raise | exact nn_retPop | exact nn_retK | apply nn_if | apply nn_seq)))) fun f cdv A outer s H E hr => by
    have tk : Takes (cxOf (L2.CX P w) P w K mg base ["broads", "name", "found", "row", "here", "low", "high"] "up_from" (defScope s_up_from) f cdv A outer s H E) (fun cls d _ H => E cls d H) := takes_of rfl rfl rfl rfl
    have po : PassesOwn (model (cxOf (L2.CX P w) P w K mg base ["broads", "name", "found", "row", "here", "low", "high"] "up_from" (defScope s_up_from) f cdv A outer s H E).prog w) (cxOf (L2.CX P w) P w K mg base ["broads", "name", "found", "row", "here", "low", "high"] "up_from" (defScope s_up_from) f cdv A outer s H E).A (cxOf (L2.CX P w) P w K mg base ["broads", "name", "found", "row", "here", "low", "high"] "up_from" (defScope s_up_from) f cdv A outer s H E).env (cxOf (L2.CX P w) P w K mg base ["broads", "name", "found", "row", "here", "low", "high"] "up_from" (defScope s_up_from) f cdv A outer s H E).xe := passes_of rfl
    exact ⟨[], dss_cons (ds_setM sc_up_from.nd rfl (by first | exact Or.inl rfl | exact Or.inr rfl) (de_dnewK))
  (dss_cons (ds_setN sc_up_from.nd rfl (by first | exact Or.inl rfl | exact Or.inr rfl) (de_lst (da_cons (de_var 1) (da_nil))))
  (dss_cons (ds_while po (dt_cmp (do_ne hr.units) stay_E (fun _ _ _ h => bool_dNe h) (de_varE 3) ((de_lst (da_nil)).le le_NE))
  (dss_cons (ds_pop 3 4 rfl (by decide) sc_up_from.nd rfl (by first | exact Or.inl rfl | exact Or.inr rfl))
  (dss_cons (ds_for po rfl (di_seq ((de_var 0).le le_IP)) (dp_tup rfl (dps_cons (dp_name sc_up_from.nd rfl (by first | exact Or.inl rfl | exact Or.inr rfl)) (dps_cons (dp_name sc_up_from.nd rfl (by first | exact Or.inl rfl | exact Or.inr rfl)) (dps_nil))))
  (dss_cons (ds_if ((dw_and (dt_cmp (do_eq hr.units) stay_E (fun _ _ _ h => bool_dEq h) ((de_var 5).le le_IE) ((de_var 4).le le_IE)) (dw_and1 (dt_cmp (do_dNotIn hr.u65) stay_D (fun _ _ _ h => bool_dNotInD h) ((de_var 6).le le_IE) ((de_varE 2).le le_ED)))).dt)
  (dss_cons (ds_dput 2 hr.u65 rfl (de_bl) (de_var 6))
  (dss_one (ds_app 3 rfl (de_var 6))))
  (dss_nil))
  (dss_end [(5, .imm), (6, .imm)])))
  (dss_end [(4, .imm), (5, .imm), (6, .imm)]))))
  (dss_one (ds_retM 2 (l := le_rfl)))))⟩

theorem sc_above : FnScope ["book", "word"] ["book", "word"] (defScope s_above) := ⟨rfl, rfl, rfl, by decide +kernel, rfl, by decide +kernel, by decide +kernel⟩
theorem ok_above (d : DefIn K mg "above" s_above ["book", "word"]) (B : Blt mg) (c_up_from : Cal P w K mg base "up_from" 1 [.imm, .imm] rM f_up_from) : Cal P w K mg base "above" 2 [.imm, .imm] rN f_above :=
  d.cal (N := ["book", "word"]) (m := 0) sc_above rfl rfl good_N (.inr (nn_start (by unfold g_above; repeat (first | exact nn_ret | exact nn_retL | exact nn_retM | exact nn_raise | exact nn_retPop | exact nn_retK | apply nn_if | apply nn_seq)))) fun f cdv A outer s H E hr => by
    have tk : Takes (cxOf (L2.CX P w) P w K mg base ["book", "word"] "above" (defScope s_above) f cdv A outer s H E) (fun cls d _ H => E cls d H) := takes_of rfl rfl rfl rfl
    have po : PassesOwn (model (cxOf (L2.CX P w) P w K mg base ["book", "word"] "above" (defScope s_above) f cdv A outer s H E).prog w) (cxOf (L2.CX P w) P w K mg base ["book", "word"] "above" (defScope s_above) f cdv A outer s H E).A (cxOf (L2.CX P w) P w K mg base ["book", "word"] "above" (defScope s_above) f cdv A outer s H E).env (cxOf (L2.CX P w) P w K mg base ["book", "word"] "above" (defScope s_above) f cdv A outer s H E).xe := passes_of rfl
    exact ⟨[], dss_one (ds_ret good_N (de_b1 (dc_sortedL hr.u65) stay_E good_N (by rfl) B.sorted PyProof.Rows.boot_sorted ((de_t1 (dc_listD rfl) stay_D good_N (by rfl) B.list PyProof.Rows.boot_list ((de_fn c_up_from good_M hr (by rfl) (passes_call tk (fun _ _ _ _ h => h)) (dg_imm (de_ix ((de_var 0).le le_ID) ((de_int).le le_IE)) (dg_imm (de_var 1) (dg_nil)))).le le_MD)).le le_NE)) le_rfl)⟩

theorem sc_chain : FnScope ["book", "low", "high", "came", "row", "later", "here", "one", "other"] ["book", "low", "high"] (defScope s_chain) := ⟨rfl, rfl, rfl, by decide +kernel, rfl, by decide +kernel, by decide +kernel⟩
theorem ok_chain (d : DefIn K mg "chain" s_chain ["book", "low", "high"]) (B : Blt mg) : Cal P w K mg base "chain" 1 [.imm, .imm, .imm] rI f_chain :=
  d.cal (N := ["book", "low", "high", "came", "row", "later", "here", "one", "other"]) (m := 6) sc_chain rfl rfl good_I (.inl le_rfl) fun f cdv A outer s H E hr => by
    have tk : Takes (cxOf (L2.CX P w) P w K mg base ["book", "low", "high", "came", "row", "later", "here", "one", "other"] "chain" (defScope s_chain) f cdv A outer s H E) (fun cls d _ H => E cls d H) := takes_of rfl rfl rfl rfl
    have po : PassesOwn (model (cxOf (L2.CX P w) P w K mg base ["book", "low", "high", "came", "row", "later", "here", "one", "other"] "chain" (defScope s_chain) f cdv A outer s H E).prog w) (cxOf (L2.CX P w) P w K mg base ["book", "low", "high", "came", "row", "later", "here", "one", "other"] "chain" (defScope s_chain) f cdv A outer s H E).A (cxOf (L2.CX P w) P w K mg base ["book", "low", "high", "came", "row", "later", "here", "one", "other"] "chain" (defScope s_chain) f cdv A outer s H E).env (cxOf (L2.CX P w) P w K mg base ["book", "low", "high", "came", "row", "later", "here", "one", "other"] "chain" (defScope s_chain) f cdv A outer s H E).xe := passes_of rfl
    exact ⟨[], dss_cons (ds_setM sc_chain.nd rfl (by first | exact Or.inl rfl | exact Or.inr rfl) (de_disp (dpr_cons (de_var 1) (de_tup (da_cons (de_var 1) (da_nil))) (dpr_nil))))
  (dss_cons (ds_set sc_chain.nd rfl (by first | exact Or.inl rfl | exact Or.inr rfl) (((de_lst (da_cons (de_var 1) (da_nil))).le le_NQ).fz))
  (dss_cons (ds_while po (dt_cmp (do_ne hr.units) stay_E (fun _ _ _ h => bool_dNe h) ((de_var 4).le le_IE) ((de_lst (da_nil)).le le_NE))
  (dss_cons (ds_setN sc_chain.nd rfl (by first | exact Or.inl rfl | exact Or.inr rfl) (de_lst (da_nil)))
  (dss_cons (ds_for po rfl (di_seq ((de_var 4).le le_IP)) (dp_name sc_chain.nd rfl (by first | exact Or.inl rfl | exact Or.inr rfl))
  (dss_cons (ds_if (dt_cmp (do_eq hr.units) stay_E (fun _ _ _ h => bool_dEq h) ((de_var 6).le le_IE) ((de_var 2).le le_IE))
  (dss_one (ds_ret good_I (de_dget hr.u65 ((de_varE 3).le le_ED) ((de_var 6).le le_IE)) le_rfl))
  (dss_nil))
  (dss_cons (ds_for po rfl (di_seq ((de_ix ((de_var 0).le le_ID) ((de_int).le le_IE)).le le_IP)) (dp_tup rfl (dps_cons (dp_name sc_chain.nd rfl (by first | exact Or.inl rfl | exact Or.inr rfl)) (dps_cons (dp_name sc_chain.nd rfl (by first | exact Or.inl rfl | exact Or.inr rfl)) (dps_nil))))
  (dss_cons (ds_if ((dw_and (dt_cmp (do_eq hr.units) stay_E (fun _ _ _ h => bool_dEq h) ((de_var 7).le le_IE) ((de_var 6).le le_IE)) (dw_and1 (dt_cmp (do_dNotIn hr.u65) stay_D (fun _ _ _ h => bool_dNotInD h) ((de_var 8).le le_IE) ((de_varE 3).le le_ED)))).dt)
  (dss_cons (ds_dput 3 hr.u65 rfl ((de_op do_add good_Q ((de_dget hr.u65 ((de_varE 3).le le_ED) ((de_var 6).le le_IE)).le le_IE) ((de_tup (da_cons (de_var 8) (da_nil))).le le_IE)).fz) (de_var 8))
  (dss_one (ds_app 5 rfl (de_var 8))))
  (dss_nil))
  (dss_end [(7, .imm), (8, .imm)])))
  (dss_end [(7, .imm), (8, .imm), (6, .imm)]))))
  (dss_keep 5 rfl (by decide) (dss_cons (ds_set sc_chain.nd rfl (by first | exact Or.inl rfl | exact Or.inr rfl) (de_var 5))
  (dss_end [(5, .imm), (6, .imm), (7, .imm), (8, .imm)]))))))
  (dss_one (ds_ret good_I (de_non) le_rfl))))⟩

theorem sc_lean_tags : FnScope ["book", "tags", "broader", "tag", "word"] ["book", "tags"] (defScope s_lean_tags) := ⟨rfl, rfl, rfl, by decide +kernel, rfl, by decide +kernel, by decide +kernel⟩
theorem ok_lean_tags (d : DefIn K mg "lean_tags" s_lean_tags ["book", "tags"]) (B : Blt mg) (c_above : Cal P w K mg base "above" 2 [.imm, .imm] rN f_above) : Cal P w K mg base "lean_tags" 3 [.imm, .imm] rI f_lean_tags :=
  d.cal (N := ["book", "tags", "broader", "tag", "word"]) (m := 3) sc_lean_tags rfl rfl good_I (.inl le_rfl) fun f cdv A outer s H E hr => by
    have tk : Takes (cxOf (L2.CX P w) P w K mg base ["book", "tags", "broader", "tag", "word"] "lean_tags" (defScope s_lean_tags) f cdv A outer s H E) (fun cls d _ H => E cls d H) := takes_of rfl rfl rfl rfl
    have po : PassesOwn (model (cxOf (L2.CX P w) P w K mg base ["book", "tags", "broader", "tag", "word"] "lean_tags" (defScope s_lean_tags) f cdv A outer s H E).prog w) (cxOf (L2.CX P w) P w K mg base ["book", "tags", "broader", "tag", "word"] "lean_tags" (defScope s_lean_tags) f cdv A outer s H E).A (cxOf (L2.CX P w) P w K mg base ["book", "tags", "broader", "tag", "word"] "lean_tags" (defScope s_lean_tags) f cdv A outer s H E).env (cxOf (L2.CX P w) P w K mg base ["book", "tags", "broader", "tag", "word"] "lean_tags" (defScope s_lean_tags) f cdv A outer s H E).xe := passes_of rfl
    exact ⟨[], dss_cons (ds_setF sc_lean_tags.nd rfl (by first | exact Or.inl rfl | exact Or.inr rfl) ((de_dc2 (own := [("tag", 3), ("word", 4)]) (vs := [3, 4]) (vs1 := [4]) rfl sc_lean_tags.nd (di_seq ((de_var 1).le le_IP)) (blkOk_by (N := ["book", "tags", "broader", "tag", "word"]) (sc := defScope s_lean_tags) (by decide +kernel)) rfl (by decide) (po_name 3) (fun _ _ _ _ _ => dp_name sc_lean_tags.nd rfl (by first | exact Or.inl rfl | exact Or.inr rfl)) (fun _ _ _ _ _ => dts_nil) (fun _ _ _ _ _ => di_seq ((((de_fn c_above good_N hr (by rfl) passL (dg_imm (de_var 0) (dg_imm (de_var 3) (dg_nil)))).le le_NQ).fz).le le_IP)) (fun _ _ _ _ _ => dp_name sc_lean_tags.nd rfl (by first | exact Or.inl rfl | exact Or.inr rfl)) (fun _ _ _ _ _ => dts_nil) (fun _ _ _ _ _ => de_var 4) (fun _ _ _ _ _ => de_bl)).fzD))
  (dss_one (ds_ret good_I (de_t1 dc_tuple stay_E good_I (by rfl) B.tuple PyProof.Rows.boot_tuple ((de_lc (own := [("tag", 3)]) (vs := [3]) rfl sc_lean_tags.nd (di_seq ((de_var 1).le le_IP)) (blkOk_by (N := ["book", "tags", "broader", "tag", "word"]) (sc := defScope s_lean_tags) (by decide +kernel)) rfl (fun _ _ _ _ _ => dp_name sc_lean_tags.nd rfl (by first | exact Or.inl rfl | exact Or.inr rfl)) (fun _ _ _ _ _ => dts_one (dt_cmp (do_dNotIn hr.u65) stay_D (fun _ _ _ h => bool_dNotInD h) ((de_var 3).le le_IE) ((de_varF 2).le le_FD))) (fun _ _ _ _ _ => de_var 3)).le le_NE)) le_rfl))⟩

theorem sc_are_lean : FnScope ["book", "tags"] ["book", "tags"] (defScope s_are_lean) := ⟨rfl, rfl, rfl, by decide +kernel, rfl, by decide +kernel, by decide +kernel⟩
theorem ok_are_lean (d : DefIn K mg "are_lean" s_are_lean ["book", "tags"]) (B : Blt mg) (c_lean_tags : Cal P w K mg base "lean_tags" 3 [.imm, .imm] rI f_lean_tags) : Cal P w K mg base "are_lean" 4 [.imm, .imm] rI f_are_lean :=
  d.cal (N := ["book", "tags"]) (m := 0) sc_are_lean rfl rfl good_I (.inl le_rfl) fun f cdv A outer s H E hr => by
    have tk : Takes (cxOf (L2.CX P w) P w K mg base ["book", "tags"] "are_lean" (defScope s_are_lean) f cdv A outer s H E) (fun cls d _ H => E cls d H) := takes_of rfl rfl rfl rfl
    have po : PassesOwn (model (cxOf (L2.CX P w) P w K mg base ["book", "tags"] "are_lean" (defScope s_are_lean) f cdv A outer s H E).prog w) (cxOf (L2.CX P w) P w K mg base ["book", "tags"] "are_lean" (defScope s_are_lean) f cdv A outer s H E).A (cxOf (L2.CX P w) P w K mg base ["book", "tags"] "are_lean" (defScope s_are_lean) f cdv A outer s H E).env (cxOf (L2.CX P w) P w K mg base ["book", "tags"] "are_lean" (defScope s_are_lean) f cdv A outer s H E).xe := passes_of rfl
    exact ⟨[], dss_one (ds_ret good_I (de_cmp (do_eq hr.units) stay_E ((de_fn c_lean_tags good_I hr (by rfl) (passes_call tk (fun _ _ _ _ h => h)) (dg_imm (de_var 0) (dg_imm (de_var 1) (dg_nil)))).le le_IE) ((de_var 1).le le_IE)) le_rfl)⟩

theorem sc_word_of : FnScope ["book", "name", "other", "word"] ["book", "name"] (defScope s_word_of) := ⟨rfl, rfl, rfl, by decide +kernel, rfl, by decide +kernel, by decide +kernel⟩
theorem ok_word_of (d : DefIn K mg "word_of" s_word_of ["book", "name"]) (B : Blt mg) : Cal P w K mg base "word_of" 1 [.imm, .imm] rI f_word_of :=
  d.cal (N := ["book", "name", "other", "word"]) (m := 2) sc_word_of rfl rfl good_I (.inl le_rfl) fun f cdv A outer s H E hr => by
    have tk : Takes (cxOf (L2.CX P w) P w K mg base ["book", "name", "other", "word"] "word_of" (defScope s_word_of) f cdv A outer s H E) (fun cls d _ H => E cls d H) := takes_of rfl rfl rfl rfl
    have po : PassesOwn (model (cxOf (L2.CX P w) P w K mg base ["book", "name", "other", "word"] "word_of" (defScope s_word_of) f cdv A outer s H E).prog w) (cxOf (L2.CX P w) P w K mg base ["book", "name", "other", "word"] "word_of" (defScope s_word_of) f cdv A outer s H E).A (cxOf (L2.CX P w) P w K mg base ["book", "name", "other", "word"] "word_of" (defScope s_word_of) f cdv A outer s H E).env (cxOf (L2.CX P w) P w K mg base ["book", "name", "other", "word"] "word_of" (defScope s_word_of) f cdv A outer s H E).xe := passes_of rfl
    exact ⟨[], dss_cons (ds_if (dt_cmp (do_in hr.u65) stay_D (fun _ _ _ h => bool_dIn h) ((de_var 1).le le_IE) ((de_ix ((de_var 0).le le_ID) ((de_int).le le_IE)).le le_ID))
  (dss_one (ds_ret good_I (de_var 1) le_rfl))
  (dss_nil))
  (dss_one (ds_ret good_I (de_get2 hr.u65 ((de_dc (own := [("other", 2), ("word", 3)]) (vs := [2, 3]) rfl sc_word_of.nd (di_seq ((de_ix ((de_var 0).le le_ID) ((de_int).le le_IE)).le le_IP)) (blkOk_by (N := ["book", "name", "other", "word"]) (sc := defScope s_word_of) (by decide +kernel)) rfl (fun _ _ _ _ _ => dp_tup rfl (dps_cons (dp_name sc_word_of.nd rfl (by first | exact Or.inl rfl | exact Or.inr rfl)) (dps_cons (dp_name sc_word_of.nd rfl (by first | exact Or.inl rfl | exact Or.inr rfl)) (dps_nil)))) (fun _ _ _ _ _ => dts_nil) (fun _ _ _ _ _ => de_var 2) (fun _ _ _ _ _ => de_var 3)).le le_MD) (de_var 1) (de_non)) le_rfl))⟩

theorem sc_plain : FnScope ["book", "ask", "word", "parts", "part"] ["book", "ask"] (defScope s_plain) := ⟨rfl, rfl, rfl, by decide +kernel, rfl, by decide +kernel, by decide +kernel⟩
theorem okn_plain (d : DefIn K mg "plain" s_plain ["book", "ask"]) (B : Blt mg) (q_NAMED : TupC K mg "NAMED" ["only", "under", "by"]) (c_word_of : Cal P w K mg base "word_of" 1 [.imm, .imm] rI f_word_of) : ∀ n : Nat, Cal P w K mg base "plain" (1 + n) [.imm, .imm] rQ (fn_plain n)
  | 0 => (Cal.none d).mono (Nat.zero_le _)
  | n + 1 => by
    have c_plain := okn_plain d B q_NAMED c_word_of n
    exact d.cal (N := ["book", "ask", "word", "parts", "part"]) (m := 3) sc_plain rfl rfl good_Q (.inl le_IQ) fun f cdv A outer s H E hr => by
      have tk : Takes (cxOf (L2.CX P w) P w K mg base ["book", "ask", "word", "parts", "part"] "plain" (defScope s_plain) f cdv A outer s H E) (fun cls d _ H => E cls d H) := takes_of rfl rfl rfl rfl
      have po : PassesOwn (model (cxOf (L2.CX P w) P w K mg base ["book", "ask", "word", "parts", "part"] "plain" (defScope s_plain) f cdv A outer s H E).prog w) (cxOf (L2.CX P w) P w K mg base ["book", "ask", "word", "parts", "part"] "plain" (defScope s_plain) f cdv A outer s H E).A (cxOf (L2.CX P w) P w K mg base ["book", "ask", "word", "parts", "part"] "plain" (defScope s_plain) f cdv A outer s H E).env (cxOf (L2.CX P w) P w K mg base ["book", "ask", "word", "parts", "part"] "plain" (defScope s_plain) f cdv A outer s H E).xe := passes_of rfl
      exact ⟨[], dss_cons (ds_if (dt_cmp (do_in hr.u65) stay_D (fun _ _ _ h => bool_dIn h) ((de_ix ((de_var 1).le le_ID) ((de_int).le le_IE)).le le_IE) ((de_glTupC (x := "NAMED") (ys := ["only", "under", "by"]) q_NAMED (by rfl)).le le_PD))
  (dss_one (ds_ret good_I (de_tup (da_cons (de_ix ((de_var 1).le le_ID) ((de_int).le le_IE)) (da_cons (de_fn c_word_of good_I hr (by rfl) (passes_call tk (fun _ _ _ _ h => h)) (dg_imm (de_var 0) (dg_imm (de_ix ((de_var 1).le le_ID) ((de_int).le le_IE)) (dg_nil))) (hk := by first | omega | (simp only [Nat.add_eq]; omega))) (da_nil)))) le_IQ))
  (dss_nil))
  (dss_cons (ds_star rfl sc_plain.nd rfl rfl (by first | exact Or.inl rfl | exact Or.inr rfl) (by first | exact Or.inl rfl | exact Or.inr rfl) (de_var 1))
  (dss_keep 3 rfl (by decide) (dss_one (ds_ret good_Q (de_op do_add good_Q ((de_tup (da_cons (de_var 2) (da_nil))).le le_IE) ((de_t1 dc_tuple stay_E good_I (by rfl) B.tuple PyProof.Rows.boot_tuple ((de_lc (own := [("part", 4)]) (vs := [4]) rfl sc_plain.nd (di_seq ((de_var 3).le le_IP)) (blkOk_by (N := ["book", "ask", "word", "parts", "part"]) (sc := defScope s_plain) (by decide +kernel)) rfl (fun _ _ _ _ _ => dp_name sc_plain.nd rfl (by first | exact Or.inl rfl | exact Or.inr rfl)) (fun _ _ _ _ _ => dts_nil) (fun _ _ _ _ _ => (de_fn c_plain good_Q hr (by rfl) passL (dg_imm (de_var 0) (dg_imm (de_var 4) (dg_nil))) (hk := by first | omega | (simp only [Nat.add_eq]; omega))).fz)).le le_NE)).le le_IE)) le_rfl))))⟩
theorem ok_plain (d : DefIn K mg "plain" s_plain ["book", "ask"]) (B : Blt mg) (q_NAMED : TupC K mg "NAMED" ["only", "under", "by"]) (c_word_of : Cal P w K mg base "word_of" 1 [.imm, .imm] rI f_word_of) : Cal P w K mg base "plain" 31 [.imm, .imm] rQ f_plain := okn_plain d B q_NAMED c_word_of 30

theorem sc_finds : FnScope ["book", "tags", "ask", "word", "pairs", "parts", "pair", "tag"] ["book", "tags", "ask"] (defScope s_finds) := ⟨rfl, rfl, rfl, by decide +kernel, rfl, by decide +kernel, by decide +kernel⟩
theorem okn_finds (d : DefIn K mg "finds" s_finds ["book", "tags", "ask"]) (B : Blt mg) (c_above : Cal P w K mg base "above" 2 [.imm, .imm] rN f_above) : ∀ n : Nat, Cal P w K mg base "finds" (2 + n) [.imm, .imm, .imm] rI (fn_finds n)
  | 0 => (Cal.none d).mono (Nat.zero_le _)
  | n + 1 => by
    have c_finds := okn_finds d B c_above n
    exact d.cal (N := ["book", "tags", "ask", "word", "pairs", "parts", "pair", "tag"]) (m := 5) sc_finds rfl rfl good_I (.inl le_rfl) fun f cdv A outer s H E hr => by
      have tk : Takes (cxOf (L2.CX P w) P w K mg base ["book", "tags", "ask", "word", "pairs", "parts", "pair", "tag"] "finds" (defScope s_finds) f cdv A outer s H E) (fun cls d _ H => E cls d H) := takes_of rfl rfl rfl rfl
      have po : PassesOwn (model (cxOf (L2.CX P w) P w K mg base ["book", "tags", "ask", "word", "pairs", "parts", "pair", "tag"] "finds" (defScope s_finds) f cdv A outer s H E).prog w) (cxOf (L2.CX P w) P w K mg base ["book", "tags", "ask", "word", "pairs", "parts", "pair", "tag"] "finds" (defScope s_finds) f cdv A outer s H E).A (cxOf (L2.CX P w) P w K mg base ["book", "tags", "ask", "word", "pairs", "parts", "pair", "tag"] "finds" (defScope s_finds) f cdv A outer s H E).env (cxOf (L2.CX P w) P w K mg base ["book", "tags", "ask", "word", "pairs", "parts", "pair", "tag"] "finds" (defScope s_finds) f cdv A outer s H E).xe := passes_of rfl
      exact ⟨[], dss_cons (ds_star rfl sc_finds.nd rfl rfl (by first | exact Or.inl rfl | exact Or.inr rfl) (by first | exact Or.inl rfl | exact Or.inr rfl) (de_var 2))
  (dss_cons (ds_if (dt_cmp (do_eq hr.units) stay_E (fun _ _ _ h => bool_dEq h) ((de_var 3).le le_IE) ((de_str).le le_IE))
  (dss_one (ds_ret good_I (de_bl) le_rfl))
  (dss_nil))
  (dss_cons (ds_if (dt_cmp (do_eq hr.units) stay_E (fun _ _ _ h => bool_dEq h) ((de_var 3).le le_IE) ((de_str).le le_IE))
  (dss_one (ds_ret good_I (de_cmp (do_in hr.u65) stay_D ((de_ix ((de_varE 5).le le_ED) ((de_int).le le_IE)).le le_IE) ((de_var 1).le le_ID)) le_rfl))
  (dss_nil))
  (dss_cons (ds_if (dt_cmp (do_eq hr.units) stay_E (fun _ _ _ h => bool_dEq h) ((de_var 3).le le_IE) ((de_str).le le_IE))
  (dss_one (ds_ret good_I (de_b1 (dc_any rfl) stay_E good_I (by rfl) B.any PyProof.Rows.boot_any ((de_lc (own := [("tag", 7)]) (vs := [7]) rfl sc_finds.nd (di_seq ((de_var 1).le le_IP)) (blkOk_by (N := ["book", "tags", "ask", "word", "pairs", "parts", "pair", "tag"]) (sc := defScope s_finds) (by decide +kernel)) rfl (fun _ _ _ _ _ => dp_name sc_finds.nd rfl (by first | exact Or.inl rfl | exact Or.inr rfl)) (fun _ _ _ _ _ => dts_nil) (fun _ _ _ _ _ => de_or good_I le_ID (de_cmp (do_eq hr.units) stay_E ((de_var 7).le le_IE) ((de_ix ((de_varE 5).le le_ED) ((de_int).le le_IE)).le le_IE)) (de_one (de_cmp (do_in hr.u65) stay_D ((de_ix ((de_varE 5).le le_ED) ((de_int).le le_IE)).le le_IE) ((de_fn c_above good_N hr (by rfl) passL (dg_imm (de_var 0) (dg_imm (de_var 7) (dg_nil))) (hk := by first | omega | (simp only [Nat.add_eq]; omega))).le le_ND))))).le le_NE)) le_rfl))
  (dss_nil))
  (dss_cons (ds_if (dt_cmp (do_eq hr.units) stay_E (fun _ _ _ h => bool_dEq h) ((de_var 3).le le_IE) ((de_str).le le_IE))
  (dss_cons (ds_set sc_finds.nd rfl (by first | exact Or.inl rfl | exact Or.inr rfl) (((de_lc (own := [("pair", 6)]) (vs := [6]) rfl sc_finds.nd (di_seq ((de_ix ((de_var 0).le le_ID) ((de_int).le le_IE)).le le_IP)) (blkOk_by (N := ["book", "tags", "ask", "word", "pairs", "parts", "pair", "tag"]) (sc := defScope s_finds) (by decide +kernel)) rfl (fun _ _ _ _ _ => dp_name sc_finds.nd rfl (by first | exact Or.inl rfl | exact Or.inr rfl)) (fun _ _ _ _ _ => dts_one (dt_cmp (do_in hr.u65) stay_D (fun _ _ _ h => bool_dIn h) ((de_ix ((de_varE 5).le le_ED) ((de_int).le le_IE)).le le_IE) ((de_var 6).le le_ID))) (fun _ _ _ _ _ => de_var 6)).le le_NQ).fz))
  (dss_one (ds_ret good_I (de_or good_I le_ID (de_cmp (do_in hr.u65) stay_D ((de_ix ((de_varE 5).le le_ED) ((de_int).le le_IE)).le le_IE) ((de_var 1).le le_ID)) (de_one (de_b1 (dc_any rfl) stay_E good_I (by rfl) B.any PyProof.Rows.boot_any ((de_lc2 (own := [("tag", 7), ("pair", 6)]) (vs := [7, 6]) (vs1 := [6]) rfl sc_finds.nd (di_seq ((de_var 1).le le_IP)) (blkOk_by (N := ["book", "tags", "ask", "word", "pairs", "parts", "pair", "tag"]) (sc := defScope s_finds) (by decide +kernel)) rfl (by decide) (po_name 7) (fun _ _ _ _ _ => dp_name sc_finds.nd rfl (by first | exact Or.inl rfl | exact Or.inr rfl)) (fun _ _ _ _ _ => dts_nil) (fun _ _ _ _ _ => di_seq ((de_var 4).le le_IP)) (fun _ _ _ _ _ => dp_name sc_finds.nd rfl (by first | exact Or.inl rfl | exact Or.inr rfl)) (fun _ _ _ _ _ => dts_nil) (fun _ _ _ _ _ => de_cmp (do_in hr.u65) stay_D ((de_var 7).le le_IE) ((de_var 6).le le_ID))).le le_NE)))) le_rfl)))
  (dss_nil))
  (dss_cons (ds_if (dt_cmp (do_eq hr.units) stay_E (fun _ _ _ h => bool_dEq h) ((de_var 3).le le_IE) ((de_str).le le_IE))
  (dss_one (ds_ret good_I (de_not ((de_fn c_finds good_I hr (by rfl) (passes_call tk (fun _ _ _ _ h => h)) (dg_imm (de_var 0) (dg_imm (de_var 1) (dg_imm (de_ix ((de_varE 5).le le_ED) ((de_int).le le_IE)) (dg_nil)))) (hk := by first | omega | (simp only [Nat.add_eq]; omega))).le le_ID)) le_rfl))
  (dss_nil))
  (dss_cons (ds_if (dt_cmp (do_eq hr.units) stay_E (fun _ _ _ h => bool_dEq h) ((de_var 3).le le_IE) ((de_str).le le_IE))
  (dss_one (ds_ret good_I (de_and good_I le_ID (de_fn c_finds good_I hr (by rfl) (passes_call tk (fun _ _ _ _ h => h)) (dg_imm (de_var 0) (dg_imm (de_var 1) (dg_imm (de_ix ((de_varE 5).le le_ED) ((de_int).le le_IE)) (dg_nil)))) (hk := by first | omega | (simp only [Nat.add_eq]; omega))) (de_one (de_fn c_finds good_I hr (by rfl) (passes_call tk (fun _ _ _ _ h => h)) (dg_imm (de_var 0) (dg_imm (de_var 1) (dg_imm (de_ix ((de_varE 5).le le_ED) ((de_int).le le_IE)) (dg_nil)))) (hk := by first | omega | (simp only [Nat.add_eq]; omega))))) le_rfl))
  (dss_nil))
  (dss_one (ds_ret good_I (de_or good_I le_ID (de_fn c_finds good_I hr (by rfl) (passes_call tk (fun _ _ _ _ h => h)) (dg_imm (de_var 0) (dg_imm (de_var 1) (dg_imm (de_ix ((de_varE 5).le le_ED) ((de_int).le le_IE)) (dg_nil)))) (hk := by first | omega | (simp only [Nat.add_eq]; omega))) (de_one (de_fn c_finds good_I hr (by rfl) (passes_call tk (fun _ _ _ _ h => h)) (dg_imm (de_var 0) (dg_imm (de_var 1) (dg_imm (de_ix ((de_varE 5).le le_ED) ((de_int).le le_IE)) (dg_nil)))) (hk := by first | omega | (simp only [Nat.add_eq]; omega))))) le_rfl))))))))⟩
theorem ok_finds (d : DefIn K mg "finds" s_finds ["book", "tags", "ask"]) (B : Blt mg) (c_above : Cal P w K mg base "above" 2 [.imm, .imm] rN f_above) : Cal P w K mg base "finds" 32 [.imm, .imm, .imm] rI f_finds := okn_finds d B c_above 30

theorem sc_places_of : FnScope ["book", "shelf", "ask", "meant", "at", "tags"] ["book", "shelf", "ask"] (defScope s_places_of) := ⟨rfl, rfl, rfl, by decide +kernel, rfl, by decide +kernel, by decide +kernel⟩
theorem ok_places_of (d : DefIn K mg "places_of" s_places_of ["book", "shelf", "ask"]) (B : Blt mg) (c_plain : Cal P w K mg base "plain" 31 [.imm, .imm] rQ f_plain) (c_finds : Cal P w K mg base "finds" 32 [.imm, .imm, .imm] rI f_finds) : Cal P w K mg base "places_of" 33 [.imm, .imm, .imm] rN f_places_of :=
  d.cal (N := ["book", "shelf", "ask", "meant", "at", "tags"]) (m := 3) sc_places_of rfl rfl good_N (.inr (nn_start (by unfold g_places_of; repeat (first | exact nn_ret | exact nn_retL | exact nn_retM | exact nn_raise | exact nn_retPop | exact nn_retK | apply nn_if | apply nn_seq)))) fun f cdv A outer s H E hr => by
    have tk : Takes (cxOf (L2.CX P w) P w K mg base ["book", "shelf", "ask", "meant", "at", "tags"] "places_of" (defScope s_places_of) f cdv A outer s H E) (fun cls d _ H => E cls d H) := takes_of rfl rfl rfl rfl
    have po : PassesOwn (model (cxOf (L2.CX P w) P w K mg base ["book", "shelf", "ask", "meant", "at", "tags"] "places_of" (defScope s_places_of) f cdv A outer s H E).prog w) (cxOf (L2.CX P w) P w K mg base ["book", "shelf", "ask", "meant", "at", "tags"] "places_of" (defScope s_places_of) f cdv A outer s H E).A (cxOf (L2.CX P w) P w K mg base ["book", "shelf", "ask", "meant", "at", "tags"] "places_of" (defScope s_places_of) f cdv A outer s H E).env (cxOf (L2.CX P w) P w K mg base ["book", "shelf", "ask", "meant", "at", "tags"] "places_of" (defScope s_places_of) f cdv A outer s H E).xe := passes_of rfl
    exact ⟨[], dss_cons (ds_set sc_places_of.nd rfl (by first | exact Or.inl rfl | exact Or.inr rfl) ((de_fn c_plain good_Q hr (by rfl) (passes_call tk (fun _ _ _ _ h => h)) (dg_imm (de_var 0) (dg_imm (de_var 2) (dg_nil)))).fz))
  (dss_one (ds_ret good_N (de_lc (own := [("at", 4), ("tags", 5)]) (vs := [4, 5]) rfl sc_places_of.nd (di_enum (by rfl) B.enumerate ((de_var 1).le le_IP)) (blkOk_by (N := ["book", "shelf", "ask", "meant", "at", "tags"]) (sc := defScope s_places_of) (by decide +kernel)) rfl (fun _ _ _ _ _ => dp_tup rfl (dps_cons (dp_name sc_places_of.nd rfl (by first | exact Or.inl rfl | exact Or.inr rfl)) (dps_cons (dp_name sc_places_of.nd rfl (by first | exact Or.inl rfl | exact Or.inr rfl)) (dps_nil)))) (fun _ _ _ _ _ => dts_one (dt_val ((de_fn c_finds good_I hr (by rfl) passL (dg_imm (de_var 0) (dg_imm (de_var 5) (dg_imm (de_var 3) (dg_nil))))).le le_ID))) (fun _ _ _ _ _ => de_var 4)) le_rfl))⟩

theorem sc_reason : FnScope ["book", "tags", "name", "chains", "tag", "one"] ["book", "tags", "name"] (defScope s_reason) := ⟨rfl, rfl, rfl, by decide +kernel, rfl, by decide +kernel, by decide +kernel⟩
theorem ok_reason (d : DefIn K mg "reason" s_reason ["book", "tags", "name"]) (B : Blt mg) (c_chain : Cal P w K mg base "chain" 1 [.imm, .imm, .imm] rI f_chain) (c_word_of : Cal P w K mg base "word_of" 1 [.imm, .imm] rI f_word_of) : Cal P w K mg base "reason" 2 [.imm, .imm, .imm] rI f_reason :=
  d.cal (N := ["book", "tags", "name", "chains", "tag", "one"]) (m := 3) sc_reason rfl rfl good_I (.inl le_rfl) fun f cdv A outer s H E hr => by
    have tk : Takes (cxOf (L2.CX P w) P w K mg base ["book", "tags", "name", "chains", "tag", "one"] "reason" (defScope s_reason) f cdv A outer s H E) (fun cls d _ H => E cls d H) := takes_of rfl rfl rfl rfl
    have po : PassesOwn (model (cxOf (L2.CX P w) P w K mg base ["book", "tags", "name", "chains", "tag", "one"] "reason" (defScope s_reason) f cdv A outer s H E).prog w) (cxOf (L2.CX P w) P w K mg base ["book", "tags", "name", "chains", "tag", "one"] "reason" (defScope s_reason) f cdv A outer s H E).A (cxOf (L2.CX P w) P w K mg base ["book", "tags", "name", "chains", "tag", "one"] "reason" (defScope s_reason) f cdv A outer s H E).env (cxOf (L2.CX P w) P w K mg base ["book", "tags", "name", "chains", "tag", "one"] "reason" (defScope s_reason) f cdv A outer s H E).xe := passes_of rfl
    exact ⟨[], dss_cons (set_lc (ps_lc (own := [("tag", 4)]) (vs := [4]) rfl sc_reason.nd rfl rfl (sw_true rfl rfl rfl (by decide +kernel)) (di_seq ((de_var 1).le le_IP)) (blkOk_by (N := ["book", "tags", "name", "chains", "tag", "one"]) (sc := defScope s_reason) (by decide +kernel)) rfl (fun _ _ _ _ _ => dp_name sc_reason.nd rfl (by first | exact Or.inl rfl | exact Or.inr rfl)) (fun _ _ _ _ _ => dts_nil) (fun _ _ _ _ _ => de_fn c_chain good_I hr (by rfl) passL (dg_imm (de_var 0) (dg_imm (de_var 4) (dg_imm (de_fn c_word_of good_I hr (by rfl) passL (dg_imm (de_var 0) (dg_imm (de_var 2) (dg_nil)))) (dg_nil)))))) (by decide))
  (dss_one (ds_ret good_I (de_ix ((de_op do_add good_Q ((de_lc (own := [("one", 5)]) (vs := [5]) rfl sc_reason.nd (di_seq ((de_var 3).le le_IP)) (blkOk_by (N := ["book", "tags", "name", "chains", "tag", "one"]) (sc := defScope s_reason) (by decide +kernel)) rfl (fun _ _ _ _ _ => dp_name sc_reason.nd rfl (by first | exact Or.inl rfl | exact Or.inr rfl)) (fun _ _ _ _ _ => dts_one (dt_cmp (do_isNot) stay_E (fun _ _ _ h => bool_dIsNot h) ((de_var 5).le le_IE) ((de_non).le le_IE))) (fun _ _ _ _ _ => de_var 5)).le le_NE) ((de_lst (da_cons (de_non) (da_nil))).le le_NE)).le le_QD) ((de_int).le le_IE)) le_rfl))⟩

theorem sc__law_cell : FnScope ["script", "k"] ["script", "k"] (defScope s__law_cell) := ⟨rfl, rfl, rfl, by decide +kernel, rfl, by decide +kernel, by decide +kernel⟩
theorem ok__law_cell (d : DefIn K mg "_law_cell" s__law_cell ["script", "k"]) (B : Blt mg) : Cal P w K mg base "_law_cell" 1 [.dct, .imm] rQ f__law_cell :=
  d.cal (N := ["script", "k"]) (m := 0) sc__law_cell rfl rfl good_Q (.inl le_IQ) fun f cdv A outer s H E hr => by
    have tk : Takes (cxOf (L2.CX P w) P w K mg base ["script", "k"] "_law_cell" (defScope s__law_cell) f cdv A outer s H E) (fun cls d _ H => E cls d H) := takes_of rfl rfl rfl rfl
    have po : PassesOwn (model (cxOf (L2.CX P w) P w K mg base ["script", "k"] "_law_cell" (defScope s__law_cell) f cdv A outer s H E).prog w) (cxOf (L2.CX P w) P w K mg base ["script", "k"] "_law_cell" (defScope s__law_cell) f cdv A outer s H E).A (cxOf (L2.CX P w) P w K mg base ["script", "k"] "_law_cell" (defScope s__law_cell) f cdv A outer s H E).env (cxOf (L2.CX P w) P w K mg base ["script", "k"] "_law_cell" (defScope s__law_cell) f cdv A outer s H E).xe := passes_of rfl
    exact ⟨[], dss_cons (ds_if (dt_cmp (do_lt hr.units) stay_E (fun _ _ _ h => bool_dLt h) ((de_var 1).le le_IE) ((de_b1 dc_len stay_D good_I (by rfl) B.len PySem.boot_len ((de_varF 0).le le_FD)).le le_IE))
  (dss_one (ds_ret good_I (de_ix ((de_varF 0).le le_FD) ((de_var 1).le le_IE)) le_IQ))
  (dss_nil))
  (dss_cons (ds_if (dt_cmp (do_eq hr.units) stay_E (fun _ _ _ h => bool_dEq h) ((de_b1 dc_len stay_D good_I (by rfl) B.len PySem.boot_len ((de_varF 0).le le_FD)).le le_IE) ((de_int).le le_IE))
  (dss_one (ds_ret good_Q (de_op do_add good_Q ((de_op do_mul good_Q ((de_int).le le_IE) ((de_var 1).le le_IE)).le le_QE) ((de_int).le le_IE)) le_rfl))
  (dss_nil))
  (dss_one (ds_ret good_Q (de_op do_add good_Q ((de_op do_mod good_I ((de_ix ((de_varF 0).le le_FD) ((de_op do_mod good_I ((de_var 1).le le_IE) ((de_b1 dc_len stay_D good_I (by rfl) B.len PySem.boot_len ((de_varF 0).le le_FD)).le le_IE)).le le_IE)).le le_IE) ((de_int).le le_IE)).le le_IE) ((de_op do_mul good_Q ((de_int).le le_IE) ((de_var 1).le le_IE)).le le_QE)) le_rfl)))⟩

theorem sc__law_draws : FnScope ["script", "k", "many", "base", "primes", "cell", "rest", "row", "j", "mash"] ["script", "k", "many", "base"] (defScope s__law_draws) := ⟨rfl, rfl, rfl, by decide +kernel, rfl, by decide +kernel, by decide +kernel⟩
theorem ok__law_draws (d : DefIn K mg "_law_draws" s__law_draws ["script", "k", "many", "base"]) (B : Blt mg) (c__law_cell : Cal P w K mg base "_law_cell" 1 [.dct, .imm] rQ f__law_cell) : Cal P w K mg base "_law_draws" 2 [.dct, .imm, .imm, .imm] rN f__law_draws :=
  d.cal (N := ["script", "k", "many", "base", "primes", "cell", "rest", "row", "j", "mash"]) (m := 6) sc__law_draws rfl rfl good_N (.inr (nn_start (by unfold g__law_draws; repeat (first | exact nn_ret | exact nn_retL | exact nn_retM | exact nn_raise | exact nn_retPop | exact nn_retK | apply nn_if | apply nn_seq)))) fun f cdv A outer s H E hr => by
    have tk : Takes (cxOf (L2.CX P w) P w K mg base ["script", "k", "many", "base", "primes", "cell", "rest", "row", "j", "mash"] "_law_draws" (defScope s__law_draws) f cdv A outer s H E) (fun cls d _ H => E cls d H) := takes_of rfl rfl rfl rfl
    have po : PassesOwn (model (cxOf (L2.CX P w) P w K mg base ["script", "k", "many", "base", "primes", "cell", "rest", "row", "j", "mash"] "_law_draws" (defScope s__law_draws) f cdv A outer s H E).prog w) (cxOf (L2.CX P w) P w K mg base ["script", "k", "many", "base", "primes", "cell", "rest", "row", "j", "mash"] "_law_draws" (defScope s__law_draws) f cdv A outer s H E).A (cxOf (L2.CX P w) P w K mg base ["script", "k", "many", "base", "primes", "cell", "rest", "row", "j", "mash"] "_law_draws" (defScope s__law_draws) f cdv A outer s H E).env (cxOf (L2.CX P w) P w K mg base ["script", "k", "many", "base", "primes", "cell", "rest", "row", "j", "mash"] "_law_draws" (defScope s__law_draws) f cdv A outer s H E).xe := passes_of rfl
    exact ⟨[], dss_cons (ds_set sc__law_draws.nd rfl (by first | exact Or.inl rfl | exact Or.inr rfl) (de_tup (da_cons (de_int) (da_cons (de_int) (da_cons (de_int) (da_cons (de_int) (da_cons (de_int) (da_cons (de_int) (da_cons (de_int) (da_cons (de_int) (da_nil)))))))))))
  (dss_cons (ds_set sc__law_draws.nd rfl (by first | exact Or.inl rfl | exact Or.inr rfl) ((de_fn c__law_cell good_Q hr (by rfl) (passes_call tk (fun _ _ _ _ h => h)) (dg_dct (de_varF 0) (dg_imm (de_var 1) (dg_nil)))).fz))
  (dss_cons (ds_set sc__law_draws.nd rfl (by first | exact Or.inl rfl | exact Or.inr rfl) (de_int))
  (dss_cons (ds_if (dt_cmp (do_ge hr.units) stay_E (fun _ _ _ h => bool_dGe h) ((de_var 5).le le_IE) ((de_op do_pow good_I ((de_int).le le_IE) ((de_int).le le_IE)).le le_IE))
  (dss_one (ds_set sc__law_draws.nd rfl (by first | exact Or.inl rfl | exact Or.inr rfl) (de_var 5)))
  (dss_nil))
  (dss_cons (ds_setN sc__law_draws.nd rfl (by first | exact Or.inl rfl | exact Or.inr rfl) (de_lst (da_nil)))
  (dss_cons (ds_for po rfl (di_range (by rfl) B.range ((de_var 2).le le_IE)) (dp_name sc__law_draws.nd rfl (by first | exact Or.inl rfl | exact Or.inr rfl))
  (dss_cons (ds_set sc__law_draws.nd rfl (by first | exact Or.inl rfl | exact Or.inr rfl) ((de_op do_mul good_Q ((de_op do_mod good_I ((de_var 5).le le_IE) ((de_ix ((de_var 4).le le_ID) ((de_op do_mod good_I ((de_var 8).le le_IE) ((de_int).le le_IE)).le le_IE)).le le_IE)).le le_IE) ((de_op do_add good_Q ((de_int).le le_IE) ((de_op do_mul good_Q ((de_op do_mul good_Q ((de_int).le le_IE) ((de_var 8).le le_IE)).le le_QE) ((de_var 8).le le_IE)).le le_QE)).le le_QE)).fz))
  (dss_cons (ds_set sc__law_draws.nd rfl (by first | exact Or.inl rfl | exact Or.inr rfl) ((de_op do_add good_Q ((de_op do_add good_Q ((de_var 9).le le_IE) ((de_op do_mul good_Q ((de_op do_mul good_Q ((de_int).le le_IE) ((de_op do_add good_Q ((de_var 8).le le_IE) ((de_int).le le_IE)).le le_QE)).le le_QE) ((de_op do_add good_Q ((de_var 8).le le_IE) ((de_int).le le_IE)).le le_QE)).le le_QE)).le le_QE) ((de_op do_mul good_Q ((de_int).le le_IE) ((de_var 1).le le_IE)).le le_QE)).fz))
  (dss_cons (ds_set sc__law_draws.nd rfl (by first | exact Or.inl rfl | exact Or.inr rfl) (de_op do_mod good_I ((de_var 9).le le_IE) ((de_ix ((de_var 4).le le_ID) ((de_op do_mod good_I ((de_op do_add good_Q ((de_op do_mul good_Q ((de_int).le le_IE) ((de_var 8).le le_IE)).le le_QE) ((de_var 1).le le_IE)).le le_QE) ((de_int).le le_IE)).le le_IE)).le le_IE)))
  (dss_cons (ds_set sc__law_draws.nd rfl (by first | exact Or.inl rfl | exact Or.inr rfl) (de_op do_mod good_I ((de_op do_mul good_Q ((de_op do_mul good_Q ((de_var 9).le le_IE) ((de_var 9).le le_IE)).le le_QE) ((de_var 9).le le_IE)).le le_QE) ((de_ix ((de_var 4).le le_ID) ((de_op do_mod good_I ((de_op do_add good_Q ((de_var 8).le le_IE) ((de_int).le le_IE)).le le_QE) ((de_int).le le_IE)).le le_IE)).le le_IE)))
  (dss_cons (ds_if (dt_cmp (do_gt hr.units) stay_E (fun _ _ _ h => bool_dGt h) ((de_var 6).le le_IE) ((de_int).le le_IE))
  (dss_one (ds_set sc__law_draws.nd rfl (by first | exact Or.inl rfl | exact Or.inr rfl) (de_var 6)))
  (dss_nil))
  (dss_cons (ds_app 7 rfl (de_op do_mod good_I ((de_var 9).le le_IE) ((de_var 3).le le_IE)))
  (dss_cons (ds_set sc__law_draws.nd rfl (by first | exact Or.inl rfl | exact Or.inr rfl) (de_op do_fdiv good_I ((de_var 6).le le_IE) ((de_var 3).le le_IE)))
  (dss_end [(9, .imm), (8, .imm)])))))))))
  (dss_one (ds_retL 7 (l := le_rfl))))))))⟩

theorem sc__law_pool : FnScope [] [] (defScope s__law_pool) := ⟨rfl, rfl, rfl, by decide +kernel, rfl, by decide +kernel, by decide +kernel⟩
theorem ok__law_pool (d : DefIn K mg "_law_pool" s__law_pool []) (B : Blt mg) : Cal P w K mg base "_law_pool" 1 [] rN f__law_pool :=
  d.cal (N := []) (m := 0) sc__law_pool rfl rfl good_N (.inr (nn_start (by unfold g__law_pool; repeat (first | exact nn_ret | exact nn_retL | exact nn_retM | exact nn_raise | exact nn_retPop | exact nn_retK | apply nn_if | apply nn_seq)))) fun f cdv A outer s H E hr => by
    have tk : Takes (cxOf (L2.CX P w) P w K mg base [] "_law_pool" (defScope s__law_pool) f cdv A outer s H E) (fun cls d _ H => E cls d H) := takes_of rfl rfl rfl rfl
    have po : PassesOwn (model (cxOf (L2.CX P w) P w K mg base [] "_law_pool" (defScope s__law_pool) f cdv A outer s H E).prog w) (cxOf (L2.CX P w) P w K mg base [] "_law_pool" (defScope s__law_pool) f cdv A outer s H E).A (cxOf (L2.CX P w) P w K mg base [] "_law_pool" (defScope s__law_pool) f cdv A outer s H E).env (cxOf (L2.CX P w) P w K mg base [] "_law_pool" (defScope s__law_pool) f cdv A outer s H E).xe := passes_of rfl
    exact ⟨[], dss_one (ds_ret good_N (de_lst (da_cons (de_str) (da_cons (de_str) (da_cons (de_str) (da_cons (de_str) (da_cons (de_str) (da_cons (de_str) (da_cons (de_str) (da_cons (de_str) (da_cons (de_str) (da_cons (de_str) (da_cons (de_str) (da_cons (de_str) (da_nil)))))))))))))) le_rfl)⟩

theorem sc__law_mixed : FnScope ["some", "draws", "left", "k"] ["some", "draws"] (defScope s__law_mixed) := ⟨rfl, rfl, rfl, by decide +kernel, rfl, by decide +kernel, by decide +kernel⟩
theorem ok__law_mixed (d : DefIn K mg "_law_mixed" s__law_mixed ["some", "draws"]) (B : Blt mg) : Cal P w K mg base "_law_mixed" 1 [.imm, .imm] rN f__law_mixed :=
  d.cal (N := ["some", "draws", "left", "k"]) (m := 2) sc__law_mixed rfl rfl good_N (.inr (nn_start (by unfold g__law_mixed; repeat (first | exact nn_ret | exact nn_retL | exact nn_retM | exact nn_raise | exact nn_retPop | exact nn_retK | apply nn_if | apply nn_seq)))) fun f cdv A outer s H E hr => by
    have tk : Takes (cxOf (L2.CX P w) P w K mg base ["some", "draws", "left", "k"] "_law_mixed" (defScope s__law_mixed) f cdv A outer s H E) (fun cls d _ H => E cls d H) := takes_of rfl rfl rfl rfl
    have po : PassesOwn (model (cxOf (L2.CX P w) P w K mg base ["some", "draws", "left", "k"] "_law_mixed" (defScope s__law_mixed) f cdv A outer s H E).prog w) (cxOf (L2.CX P w) P w K mg base ["some", "draws", "left", "k"] "_law_mixed" (defScope s__law_mixed) f cdv A outer s H E).A (cxOf (L2.CX P w) P w K mg base ["some", "draws", "left", "k"] "_law_mixed" (defScope s__law_mixed) f cdv A outer s H E).env (cxOf (L2.CX P w) P w K mg base ["some", "draws", "left", "k"] "_law_mixed" (defScope s__law_mixed) f cdv A outer s H E).xe := passes_of rfl
    exact ⟨[], dss_cons (ds_setN sc__law_mixed.nd rfl (by first | exact Or.inl rfl | exact Or.inr rfl) (de_t1 dc_list stay_D good_N (by rfl) B.list PyProof.Rows.boot_list ((de_var 0).le le_ID)))
  (dss_one (ds_retPop (own := [("k", 3)]) (vs := [3]) 2 rfl sc__law_mixed.nd rfl (di_range (by rfl) B.range ((de_b1 dc_len stay_D good_I (by rfl) B.len PySem.boot_len ((de_var 0).le le_ID)).le le_IE)) (blkOk_by (N := ["some", "draws", "left", "k"]) (sc := defScope s__law_mixed) (by decide +kernel)) rfl (fun _ _ _ _ _ => dp_name sc__law_mixed.nd rfl (by first | exact Or.inl rfl | exact Or.inr rfl)) (fun _ _ _ _ _ => de_op do_mod good_I ((de_ix ((de_var 1).le le_ID) ((de_op do_mod good_I ((de_var 3).le le_IE) ((de_b1 dc_len stay_D good_I (by rfl) B.len PySem.boot_len ((de_var 1).le le_ID)).le le_IE)).le le_IE)).le le_IE) ((de_b1 dc_len stay_D good_I (by rfl) B.len PySem.boot_len ((de_varE 2).le le_ED)).le le_IE)) (fun _ _ _ _ _ => pe_popC 2 (de_op do_mod good_I ((de_ix ((de_var 1).le le_ID) ((de_op do_mod good_I ((de_var 3).le le_IE) ((de_b1 dc_len stay_D good_I (by rfl) B.len PySem.boot_len ((de_var 1).le le_ID)).le le_IE)).le le_IE)).le le_IE) ((de_b1 dc_len stay_D good_I (by rfl) B.len PySem.boot_len ((de_varE 2).le le_ED)).le le_IE))) le_rfl))⟩

theorem sc__law_up : FnScope ["broads", "word", "found", "row", "here", "more", "pair", "name"] ["broads", "word"] (defScope s__law_up) := ⟨rfl, rfl, rfl, by decide +kernel, rfl, by decide +kernel, by decide +kernel⟩
theorem ok__law_up (d : DefIn K mg "_law_up" s__law_up ["broads", "word"]) (B : Blt mg) : Cal P w K mg base "_law_up" 1 [.imm, .imm] rN f__law_up :=
  d.cal (N := ["broads", "word", "found", "row", "here", "more", "pair", "name"]) (m := 6) sc__law_up rfl rfl good_N (.inr (nn_start (by unfold g__law_up; repeat (first | exact nn_ret | exact nn_retL | exact nn_retM | exact nn_raise | exact nn_retPop | exact nn_retK | apply nn_if | apply nn_seq)))) fun f cdv A outer s H E hr => by
    have tk : Takes (cxOf (L2.CX P w) P w K mg base ["broads", "word", "found", "row", "here", "more", "pair", "name"] "_law_up" (defScope s__law_up) f cdv A outer s H E) (fun cls d _ H => E cls d H) := takes_of rfl rfl rfl rfl
    have po : PassesOwn (model (cxOf (L2.CX P w) P w K mg base ["broads", "word", "found", "row", "here", "more", "pair", "name"] "_law_up" (defScope s__law_up) f cdv A outer s H E).prog w) (cxOf (L2.CX P w) P w K mg base ["broads", "word", "found", "row", "here", "more", "pair", "name"] "_law_up" (defScope s__law_up) f cdv A outer s H E).A (cxOf (L2.CX P w) P w K mg base ["broads", "word", "found", "row", "here", "more", "pair", "name"] "_law_up" (defScope s__law_up) f cdv A outer s H E).env (cxOf (L2.CX P w) P w K mg base ["broads", "word", "found", "row", "here", "more", "pair", "name"] "_law_up" (defScope s__law_up) f cdv A outer s H E).xe := passes_of rfl
    exact ⟨[], dss_cons (ds_set sc__law_up.nd rfl (by first | exact Or.inl rfl | exact Or.inr rfl) (((de_lst (da_nil)).le le_NQ).fz))
  (dss_cons (ds_setN sc__law_up.nd rfl (by first | exact Or.inl rfl | exact Or.inr rfl) (de_lst (da_cons (de_var 1) (da_nil))))
  (dss_cons (ds_while po (dt_cmp (do_ne hr.units) stay_E (fun _ _ _ h => bool_dNe h) (de_varE 3) ((de_lst (da_nil)).le le_NE))
  (dss_cons (ds_pop 3 4 rfl (by decide) sc__law_up.nd rfl (by first | exact Or.inl rfl | exact Or.inr rfl))
  (dss_cons (set_lc (ps_lc (own := [("pair", 6)]) (vs := [6]) rfl sc__law_up.nd rfl rfl (sw_true rfl rfl rfl (by decide +kernel)) (di_seq ((de_var 0).le le_IP)) (blkOk_by (N := ["broads", "word", "found", "row", "here", "more", "pair", "name"]) (sc := defScope s__law_up) (by decide +kernel)) rfl (fun _ _ _ _ _ => dp_name sc__law_up.nd rfl (by first | exact Or.inl rfl | exact Or.inr rfl)) (fun _ _ _ _ _ => dts_one (dt_cmp (do_eq hr.units) stay_E (fun _ _ _ h => bool_dEq h) ((de_ix ((de_var 6).le le_ID) ((de_int).le le_IE)).le le_IE) ((de_var 4).le le_IE))) (fun _ _ _ _ _ => de_ix ((de_var 6).le le_ID) ((de_int).le le_IE))) (by decide))
  (dss_cons (set_lc (ps_lc (own := [("name", 7)]) (vs := [7]) rfl sc__law_up.nd rfl rfl (sw_true rfl rfl rfl (by decide +kernel)) (di_seq ((de_var 5).le le_IP)) (blkOk_by (N := ["broads", "word", "found", "row", "here", "more", "pair", "name"]) (sc := defScope s__law_up) (by decide +kernel)) rfl (fun _ _ _ _ _ => dp_name sc__law_up.nd rfl (by first | exact Or.inl rfl | exact Or.inr rfl)) (fun _ _ _ _ _ => dts_one (dt_cmp (do_notIn hr.u65) stay_D (fun _ _ _ h => bool_dNotIn h) ((de_var 7).le le_IE) ((de_var 2).le le_ID))) (fun _ _ _ _ _ => de_var 7)) (by decide))
  (dss_cons (ds_set sc__law_up.nd rfl (by first | exact Or.inl rfl | exact Or.inr rfl) ((de_op do_add good_Q ((de_var 2).le le_IE) ((de_var 5).le le_IE)).fz))
  (dss_cons (ds_setN sc__law_up.nd rfl (by first | exact Or.inl rfl | exact Or.inr rfl) (de_op do_addL good_N (de_varE 3) ((de_var 5).le le_IE)))
  (dss_end [(4, .imm), (5, .imm)])))))))
  (dss_one (ds_ret good_N (de_sortedSet hr.u65 rfl (by rfl) B.sorted (by rfl) B.set ((de_var 2).le le_IE)) le_rfl))))⟩

theorem sc__law_book : FnScope ["draws", "many", "order", "k", "broads", "nears", "others", "one", "other", "apart"] ["draws", "many"] (defScope s__law_book) := ⟨rfl, rfl, rfl, by decide +kernel, rfl, by decide +kernel, by decide +kernel⟩
theorem ok__law_book (d : DefIn K mg "_law_book" s__law_book ["draws", "many"]) (B : Blt mg) (c__law_mixed : Cal P w K mg base "_law_mixed" 1 [.imm, .imm] rN f__law_mixed) (c__law_pool : Cal P w K mg base "_law_pool" 1 [] rN f__law_pool) (c__law_up : Cal P w K mg base "_law_up" 1 [.imm, .imm] rN f__law_up) : Cal P w K mg base "_law_book" 2 [.imm, .imm] rI f__law_book :=
  d.cal (N := ["draws", "many", "order", "k", "broads", "nears", "others", "one", "other", "apart"]) (m := 8) sc__law_book rfl rfl good_I (.inl le_rfl) fun f cdv A outer s H E hr => by
    have tk : Takes (cxOf (L2.CX P w) P w K mg base ["draws", "many", "order", "k", "broads", "nears", "others", "one", "other", "apart"] "_law_book" (defScope s__law_book) f cdv A outer s H E) (fun cls d _ H => E cls d H) := takes_of rfl rfl rfl rfl
    have po : PassesOwn (model (cxOf (L2.CX P w) P w K mg base ["draws", "many", "order", "k", "broads", "nears", "others", "one", "other", "apart"] "_law_book" (defScope s__law_book) f cdv A outer s H E).prog w) (cxOf (L2.CX P w) P w K mg base ["draws", "many", "order", "k", "broads", "nears", "others", "one", "other", "apart"] "_law_book" (defScope s__law_book) f cdv A outer s H E).A (cxOf (L2.CX P w) P w K mg base ["draws", "many", "order", "k", "broads", "nears", "others", "one", "other", "apart"] "_law_book" (defScope s__law_book) f cdv A outer s H E).env (cxOf (L2.CX P w) P w K mg base ["draws", "many", "order", "k", "broads", "nears", "others", "one", "other", "apart"] "_law_book" (defScope s__law_book) f cdv A outer s H E).xe := passes_of rfl
    exact ⟨[], dss_cons (ds_set sc__law_book.nd rfl (by first | exact Or.inl rfl | exact Or.inr rfl) ((de_slice ((de_fn c__law_mixed good_N hr (by rfl) (passes_call tk (fun _ _ _ _ h => h)) (dg_imm ((de_slice ((de_fn0 c__law_pool hr (by rfl) (passes_call tk (fun _ _ _ _ h => h))).le le_NE) (do_none) (do_some ((de_int).le le_IE))).fz) (dg_imm (de_var 0) (dg_nil)))).le le_NE) (do_none) (do_some ((de_op do_mod good_I ((de_ix ((de_var 0).le le_ID) ((de_int).le le_IE)).le le_IE) ((de_op do_add good_Q ((de_var 1).le le_IE) ((de_int).le le_IE)).le le_QE)).le le_IE))).fz))
  (dss_cons (ds_par3 4 5 6 .own .own .own rfl sc__law_book.nd rfl rfl rfl rfl rfl rfl ((de_lst (da_nil)).le le_NL) ((de_lst (da_nil)).le le_NL) ((de_lst (da_nil)).le le_NL) (by decide) (by decide) (by decide))
  (dss_cons (ds_for po rfl (di_range (by rfl) B.range ((de_op do_mul good_Q ((de_b1 dc_len stay_D good_I (by rfl) B.len PySem.boot_len ((de_var 2).le le_ID)).le le_IE) ((de_int).le le_IE)).le le_QE)) (dp_name sc__law_book.nd rfl (by first | exact Or.inl rfl | exact Or.inr rfl))
  (dss_cons (ds_set sc__law_book.nd rfl (by first | exact Or.inl rfl | exact Or.inr rfl) (de_op do_mod good_I ((de_ix ((de_var 0).le le_ID) ((de_op do_add good_Q ((de_int).le le_IE) ((de_var 3).le le_IE)).le le_QE)).le le_IE) ((de_b1 dc_len stay_D good_I (by rfl) B.len PySem.boot_len ((de_var 2).le le_ID)).le le_IE)))
  (dss_cons (ds_set sc__law_book.nd rfl (by first | exact Or.inl rfl | exact Or.inr rfl) (de_op do_mod good_I ((de_op do_fdiv good_I ((de_ix ((de_var 0).le le_ID) ((de_op do_add good_Q ((de_int).le le_IE) ((de_var 3).le le_IE)).le le_QE)).le le_IE) ((de_int).le le_IE)).le le_IE) ((de_b1 dc_len stay_D good_I (by rfl) B.len PySem.boot_len ((de_var 2).le le_ID)).le le_IE)))
  (dss_cons (ds_if (dt_cmp (do_lt hr.units) stay_E (fun _ _ _ h => bool_dLt h) ((de_var 7).le le_IE) ((de_var 8).le le_IE))
  (dss_one (ds_app 4 rfl (de_tup (da_cons (de_ix ((de_var 2).le le_ID) ((de_var 7).le le_IE)) (da_cons (de_ix ((de_var 2).le le_ID) ((de_var 8).le le_IE)) (da_nil))))))
  (dss_nil))
  (dss_end [(7, .imm), (8, .imm), (3, .imm)])))))
  (dss_keep 4 rfl (by decide) (dss_cons (ds_for po rfl (di_range (by rfl) B.range ((de_b1 dc_len stay_D good_I (by rfl) B.len PySem.boot_len ((de_var 2).le le_ID)).le le_IE)) (dp_name sc__law_book.nd rfl (by first | exact Or.inl rfl | exact Or.inr rfl))
  (dss_cons (ds_set sc__law_book.nd rfl (by first | exact Or.inl rfl | exact Or.inr rfl) (de_ix ((de_var 2).le le_ID) ((de_var 3).le le_IE)))
  (dss_cons (ds_set sc__law_book.nd rfl (by first | exact Or.inl rfl | exact Or.inr rfl) (de_ix ((de_var 2).le le_ID) ((de_op do_mod good_I ((de_ix ((de_var 0).le le_ID) ((de_op do_add good_Q ((de_int).le le_IE) ((de_var 3).le le_IE)).le le_QE)).le le_IE) ((de_b1 dc_len stay_D good_I (by rfl) B.len PySem.boot_len ((de_var 2).le le_ID)).le le_IE)).le le_IE)))
  (dss_cons (ds_set sc__law_book.nd rfl (by first | exact Or.inl rfl | exact Or.inr rfl) (de_and good_I le_ID (de_cmp (do_notIn hr.u65) stay_D ((de_var 8).le le_IE) ((de_fn c__law_up good_N hr (by rfl) (passes_call tk (fun _ _ _ _ h => h)) (dg_imm (de_var 4) (dg_imm (de_var 7) (dg_nil)))).le le_ND)) (de_one (de_cmp (do_notIn hr.u65) stay_D ((de_var 7).le le_IE) ((de_fn c__law_up good_N hr (by rfl) (passes_call tk (fun _ _ _ _ h => h)) (dg_imm (de_var 4) (dg_imm (de_var 8) (dg_nil)))).le le_ND)))))
  (dss_cons (ds_if ((dw_and (dt_cmp (do_lt hr.units) stay_E (fun _ _ _ h => bool_dLt h) ((de_var 7).le le_IE) ((de_var 8).le le_IE)) (dw_and (dt_val ((de_var 9).le le_ID)) (dw_and1 (dt_cmp (do_gt hr.units) stay_E (fun _ _ _ h => bool_dGt h) ((de_op do_mod good_I ((de_op do_fdiv good_I ((de_ix ((de_var 0).le le_ID) ((de_op do_add good_Q ((de_int).le le_IE) ((de_var 3).le le_IE)).le le_QE)).le le_IE) ((de_int).le le_IE)).le le_IE) ((de_int).le le_IE)).le le_IE) ((de_int).le le_IE))))).dt)
  (dss_one (ds_app 5 rfl (de_tup (da_cons (de_var 7) (da_cons (de_var 8) (da_nil))))))
  (dss_nil))
  (dss_end [(7, .imm), (8, .imm), (9, .imm), (3, .imm)]))))))
  (dss_cons (ds_for po rfl (di_range (by rfl) B.range ((de_if good_I (dt_cmp (do_ne hr.units) stay_E (fun _ _ _ h => bool_dNe h) ((de_var 2).le le_IE) ((de_lst (da_nil)).le le_NE)) (de_op do_mod good_I ((de_ix ((de_var 0).le le_ID) ((de_int).le le_IE)).le le_IE) ((de_int).le le_IE)) (de_int)).le le_IE)) (dp_name sc__law_book.nd rfl (by first | exact Or.inl rfl | exact Or.inr rfl))
  (dss_cons (ds_app 6 rfl (de_tup (da_cons (de_ix ((de_fn0 c__law_pool hr (by rfl) (passes_call tk (fun _ _ _ _ h => h))).le le_ND) ((de_op do_add good_Q ((de_int).le le_IE) ((de_var 3).le le_IE)).le le_QE)) (da_cons (de_ix ((de_var 2).le le_ID) ((de_op do_mod good_I ((de_ix ((de_var 0).le le_ID) ((de_op do_add good_Q ((de_int).le le_IE) ((de_var 3).le le_IE)).le le_QE)).le le_IE) ((de_b1 dc_len stay_D good_I (by rfl) B.len PySem.boot_len ((de_var 2).le le_ID)).le le_IE)).le le_IE)) (da_nil)))))
  (dss_end [(3, .imm)])))
  (dss_one (ds_ret good_I (de_tup (da_cons (de_t1 dc_tuple stay_E good_I (by rfl) B.tuple PyProof.Rows.boot_tuple ((de_b1 (dc_sortedL hr.u65) stay_E good_N (by rfl) B.sorted PyProof.Rows.boot_sorted ((de_var 2).le le_IE)).le le_NE)) (da_cons (de_t1 dc_tuple stay_E good_I (by rfl) B.tuple PyProof.Rows.boot_tuple ((de_sortedSet hr.u65 rfl (by rfl) B.sorted (by rfl) B.set ((de_var 4).le le_IE)).le le_NE)) (da_cons (de_t1 dc_tuple stay_E good_I (by rfl) B.tuple PyProof.Rows.boot_tuple ((de_sortedSet hr.u65 rfl (by rfl) B.sorted (by rfl) B.set (de_varE 5)).le le_NE)) (da_cons (de_t1 dc_tuple stay_E good_I (by rfl) B.tuple PyProof.Rows.boot_tuple (de_varE 6)) (da_nil)))))) le_rfl)))))))⟩

theorem sc__law_a_book : FnScope ["script", "at", "many"] ["script", "at", "many"] (defScope s__law_a_book) := ⟨rfl, rfl, rfl, by decide +kernel, rfl, by decide +kernel, by decide +kernel⟩
theorem ok__law_a_book (d : DefIn K mg "_law_a_book" s__law_a_book ["script", "at", "many"]) (B : Blt mg) (c__law_book : Cal P w K mg base "_law_book" 2 [.imm, .imm] rI f__law_book) (c__law_draws : Cal P w K mg base "_law_draws" 2 [.dct, .imm, .imm, .imm] rN f__law_draws) : Cal P w K mg base "_law_a_book" 3 [.dct, .imm, .imm] rI f__law_a_book :=
  d.cal (N := ["script", "at", "many"]) (m := 0) sc__law_a_book rfl rfl good_I (.inl le_rfl) fun f cdv A outer s H E hr => by
    have tk : Takes (cxOf (L2.CX P w) P w K mg base ["script", "at", "many"] "_law_a_book" (defScope s__law_a_book) f cdv A outer s H E) (fun cls d _ H => E cls d H) := takes_of rfl rfl rfl rfl
    have po : PassesOwn (model (cxOf (L2.CX P w) P w K mg base ["script", "at", "many"] "_law_a_book" (defScope s__law_a_book) f cdv A outer s H E).prog w) (cxOf (L2.CX P w) P w K mg base ["script", "at", "many"] "_law_a_book" (defScope s__law_a_book) f cdv A outer s H E).A (cxOf (L2.CX P w) P w K mg base ["script", "at", "many"] "_law_a_book" (defScope s__law_a_book) f cdv A outer s H E).env (cxOf (L2.CX P w) P w K mg base ["script", "at", "many"] "_law_a_book" (defScope s__law_a_book) f cdv A outer s H E).xe := passes_of rfl
    exact ⟨[], dss_one (ds_ret good_I (de_fn c__law_book good_I hr (by rfl) (passes_call tk (fun _ _ _ _ h => h)) (dg_imm (((de_fn c__law_draws good_N hr (by rfl) (passes_call tk (fun _ _ _ _ h => h)) (dg_dct (de_varF 0) (dg_imm (de_var 1) (dg_imm (de_int) (dg_imm (de_int) (dg_nil)))))).le le_NQ).fz) (dg_imm (de_var 2) (dg_nil)))) le_rfl)⟩

theorem sc__law_ask : FnScope ["book", "draws", "deep", "names", "way", "half", "pair"] ["book", "draws", "deep"] (defScope s__law_ask) := ⟨rfl, rfl, rfl, by decide +kernel, rfl, by decide +kernel, by decide +kernel⟩
theorem okn__law_ask (d : DefIn K mg "_law_ask" s__law_ask ["book", "draws", "deep"]) (B : Blt mg) : ∀ n : Nat, Cal P w K mg base "_law_ask" (0 + n) [.imm, .imm, .imm] rI (fn__law_ask n)
  | 0 => (Cal.none d).mono (Nat.zero_le _)
  | n + 1 => by
    have c__law_ask := okn__law_ask d B  n
    exact d.cal (N := ["book", "draws", "deep", "names", "way", "half", "pair"]) (m := 4) sc__law_ask rfl rfl good_I (.inl le_rfl) fun f cdv A outer s H E hr => by
      have tk : Takes (cxOf (L2.CX P w) P w K mg base ["book", "draws", "deep", "names", "way", "half", "pair"] "_law_ask" (defScope s__law_ask) f cdv A outer s H E) (fun cls d _ H => E cls d H) := takes_of rfl rfl rfl rfl
      have po : PassesOwn (model (cxOf (L2.CX P w) P w K mg base ["book", "draws", "deep", "names", "way", "half", "pair"] "_law_ask" (defScope s__law_ask) f cdv A outer s H E).prog w) (cxOf (L2.CX P w) P w K mg base ["book", "draws", "deep", "names", "way", "half", "pair"] "_law_ask" (defScope s__law_ask) f cdv A outer s H E).A (cxOf (L2.CX P w) P w K mg base ["book", "draws", "deep", "names", "way", "half", "pair"] "_law_ask" (defScope s__law_ask) f cdv A outer s H E).env (cxOf (L2.CX P w) P w K mg base ["book", "draws", "deep", "names", "way", "half", "pair"] "_law_ask" (defScope s__law_ask) f cdv A outer s H E).xe := passes_of rfl
      exact ⟨[], dss_cons (ds_set sc__law_ask.nd rfl (by first | exact Or.inl rfl | exact Or.inr rfl) ((de_op do_add good_Q ((de_t1 dc_list stay_D good_N (by rfl) B.list PyProof.Rows.boot_list ((de_ix ((de_var 0).le le_ID) ((de_int).le le_IE)).le le_ID)).le le_NE) ((de_lc (own := [("pair", 6)]) (vs := [6]) rfl sc__law_ask.nd (di_seq ((de_ix ((de_var 0).le le_ID) ((de_int).le le_IE)).le le_IP)) (blkOk_by (N := ["book", "draws", "deep", "names", "way", "half", "pair"]) (sc := defScope s__law_ask) (by decide +kernel)) rfl (fun _ _ _ _ _ => dp_name sc__law_ask.nd rfl (by first | exact Or.inl rfl | exact Or.inr rfl)) (fun _ _ _ _ _ => dts_nil) (fun _ _ _ _ _ => de_ix ((de_var 6).le le_ID) ((de_int).le le_IE))).le le_NE)).fz))
  (dss_cons (ds_set sc__law_ask.nd rfl (by first | exact Or.inl rfl | exact Or.inr rfl) (de_op do_mod good_I ((de_ix ((de_var 1).le le_ID) ((de_int).le le_IE)).le le_IE) ((de_int).le le_IE)))
  (dss_cons (ds_if ((dw_or (dt_cmp (do_eq hr.units) stay_E (fun _ _ _ h => bool_dEq h) ((de_var 3).le le_IE) ((de_lst (da_nil)).le le_NE)) (dw_or ((dw_and (dt_cmp (do_gt hr.units) stay_E (fun _ _ _ h => bool_dGt h) ((de_var 2).le le_IE) ((de_int).le le_IE)) (dw_and1 (dt_cmp (do_gt hr.units) stay_E (fun _ _ _ h => bool_dGt h) ((de_var 4).le le_IE) ((de_int).le le_IE)))).dt) (dw_or1 (dt_cmp (do_eq hr.units) stay_E (fun _ _ _ h => bool_dEq h) ((de_var 4).le le_IE) ((de_int).le le_IE))))).dt)
  (dss_one (ds_ret good_I (de_if good_I ((dw_or (dt_cmp (do_eq hr.units) stay_E (fun _ _ _ h => bool_dEq h) ((de_var 3).le le_IE) ((de_lst (da_nil)).le le_NE)) (dw_or1 (dt_cmp (do_eq hr.units) stay_E (fun _ _ _ h => bool_dEq h) ((de_op do_mod good_I ((de_op do_fdiv good_I ((de_ix ((de_var 1).le le_ID) ((de_int).le le_IE)).le le_IE) ((de_int).le le_IE)).le le_IE) ((de_int).le le_IE)).le le_IE) ((de_int).le le_IE)))).dt) (de_tup (da_cons (de_str) (da_nil))) (de_tup (da_cons (de_str) (da_cons (de_ix ((de_var 3).le le_ID) ((de_op do_mod good_I ((de_ix ((de_var 1).le le_ID) ((de_int).le le_IE)).le le_IE) ((de_b1 dc_len stay_D good_I (by rfl) B.len PySem.boot_len ((de_var 3).le le_ID)).le le_IE)).le le_IE)) (da_nil))))) le_rfl))
  (dss_nil))
  (dss_cons (ds_if (dt_cmp (do_lt hr.units) stay_E (fun _ _ _ h => bool_dLt h) ((de_var 4).le le_IE) ((de_int).le le_IE))
  (dss_one (ds_ret good_I (de_tup (da_cons (de_ix ((de_lst (da_cons (de_str) (da_cons (de_str) (da_cons (de_str) (da_nil))))).le le_ND) ((de_op do_sub good_I ((de_var 4).le le_IE) ((de_int).le le_IE)).le le_IE)) (da_cons (de_ix ((de_var 3).le le_ID) ((de_op do_mod good_I ((de_ix ((de_var 1).le le_ID) ((de_int).le le_IE)).le le_IE) ((de_b1 dc_len stay_D good_I (by rfl) B.len PySem.boot_len ((de_var 3).le le_ID)).le le_IE)).le le_IE)) (da_nil)))) le_rfl))
  (dss_nil))
  (dss_cons (ds_if (dt_cmp (do_eq hr.units) stay_E (fun _ _ _ h => bool_dEq h) ((de_var 4).le le_IE) ((de_int).le le_IE))
  (dss_one (ds_ret good_I (de_tup (da_cons (de_str) (da_cons (de_fn c__law_ask good_I hr (by rfl) (passes_call tk (fun _ _ _ _ h => h)) (dg_imm (de_var 0) (dg_imm ((de_slice ((de_var 1).le le_IE) (do_some ((de_int).le le_IE)) (do_none)).fz) (dg_imm ((de_op do_add good_Q ((de_var 2).le le_IE) ((de_int).le le_IE)).fz) (dg_nil)))) (hk := by first | omega | (simp only [Nat.add_eq]; omega))) (da_nil)))) le_rfl))
  (dss_nil))
  (dss_cons (ds_set sc__law_ask.nd rfl (by first | exact Or.inl rfl | exact Or.inr rfl) (de_op do_fdiv good_I ((de_b1 dc_len stay_D good_I (by rfl) B.len PySem.boot_len ((de_var 1).le le_ID)).le le_IE) ((de_int).le le_IE)))
  (dss_one (ds_ret good_I (de_tup (da_cons (de_ix ((de_lst (da_cons (de_str) (da_cons (de_str) (da_nil)))).le le_ND) ((de_op do_sub good_I ((de_var 4).le le_IE) ((de_int).le le_IE)).le le_IE)) (da_cons (de_fn c__law_ask good_I hr (by rfl) (passes_call tk (fun _ _ _ _ h => h)) (dg_imm (de_var 0) (dg_imm ((de_slice ((de_var 1).le le_IE) (do_some ((de_int).le le_IE)) (do_none)).fz) (dg_imm ((de_op do_add good_Q ((de_var 2).le le_IE) ((de_int).le le_IE)).fz) (dg_nil)))) (hk := by first | omega | (simp only [Nat.add_eq]; omega))) (da_cons (de_fn c__law_ask good_I hr (by rfl) (passes_call tk (fun _ _ _ _ h => h)) (dg_imm (de_var 0) (dg_imm ((de_slice ((de_var 1).le le_IE) (do_some ((de_var 5).le le_IE)) (do_none)).fz) (dg_imm ((de_op do_add good_Q ((de_var 2).le le_IE) ((de_int).le le_IE)).fz) (dg_nil)))) (hk := by first | omega | (simp only [Nat.add_eq]; omega))) (da_nil))))) le_rfl)))))))⟩
theorem ok__law_ask (d : DefIn K mg "_law_ask" s__law_ask ["book", "draws", "deep"]) (B : Blt mg) : Cal P w K mg base "_law_ask" 30 [.imm, .imm, .imm] rI f__law_ask := okn__law_ask d B  30

theorem sc__law_parts : FnScope ["ask", "part"] ["ask"] (defScope s__law_parts) := ⟨rfl, rfl, rfl, by decide +kernel, rfl, by decide +kernel, by decide +kernel⟩
theorem okn__law_parts (d : DefIn K mg "_law_parts" s__law_parts ["ask"]) (B : Blt mg) : ∀ n : Nat, Cal P w K mg base "_law_parts" (0 + n) [.imm] rQ (fn__law_parts n)
  | 0 => (Cal.none d).mono (Nat.zero_le _)
  | n + 1 => by
    have c__law_parts := okn__law_parts d B  n
    exact d.cal (N := ["ask", "part"]) (m := 1) sc__law_parts rfl rfl good_Q (.inl le_IQ) fun f cdv A outer s H E hr => by
      have tk : Takes (cxOf (L2.CX P w) P w K mg base ["ask", "part"] "_law_parts" (defScope s__law_parts) f cdv A outer s H E) (fun cls d _ H => E cls d H) := takes_of rfl rfl rfl rfl
      have po : PassesOwn (model (cxOf (L2.CX P w) P w K mg base ["ask", "part"] "_law_parts" (defScope s__law_parts) f cdv A outer s H E).prog w) (cxOf (L2.CX P w) P w K mg base ["ask", "part"] "_law_parts" (defScope s__law_parts) f cdv A outer s H E).A (cxOf (L2.CX P w) P w K mg base ["ask", "part"] "_law_parts" (defScope s__law_parts) f cdv A outer s H E).env (cxOf (L2.CX P w) P w K mg base ["ask", "part"] "_law_parts" (defScope s__law_parts) f cdv A outer s H E).xe := passes_of rfl
      exact ⟨[], dss_one (ds_ret good_Q (de_op do_add good_Q ((de_int).le le_IE) ((de_b1 (dc_sum rfl) stay_E good_I (by rfl) B.sum PyProof.Rows.boot_sum ((de_lc (own := [("part", 1)]) (vs := [1]) rfl sc__law_parts.nd (di_seq (((de_slice ((de_var 0).le le_IE) (do_some ((de_int).le le_IE)) (do_none)).fz).le le_IP)) (blkOk_by (N := ["ask", "part"]) (sc := defScope s__law_parts) (by decide +kernel)) rfl (fun _ _ _ _ _ => dp_name sc__law_parts.nd rfl (by first | exact Or.inl rfl | exact Or.inr rfl)) (fun _ _ _ _ _ => dts_one (dt_val ((de_isi asked_tuple (by rfl) B.isi (by rfl) B.tuple PyProof.Rows.boot_tuple ((de_var 1).le le_IE)).le le_ID))) (fun _ _ _ _ _ => (de_fn c__law_parts good_Q hr (by rfl) passL (dg_imm (de_var 1) (dg_nil)) (hk := by first | omega | (simp only [Nat.add_eq]; omega))).fz)).le le_NE)).le le_IE)) le_rfl)⟩
theorem ok__law_parts (d : DefIn K mg "_law_parts" s__law_parts ["ask"]) (B : Blt mg) : Cal P w K mg base "_law_parts" 30 [.imm] rQ f__law_parts := okn__law_parts d B  30

theorem sc__law_an_ask : FnScope ["book", "draws", "ask"] ["book", "draws"] (defScope s__law_an_ask) := ⟨rfl, rfl, rfl, by decide +kernel, rfl, by decide +kernel, by decide +kernel⟩
theorem ok__law_an_ask (d : DefIn K mg "_law_an_ask" s__law_an_ask ["book", "draws"]) (B : Blt mg) (c__law_ask : Cal P w K mg base "_law_ask" 30 [.imm, .imm, .imm] rI f__law_ask) (c__law_parts : Cal P w K mg base "_law_parts" 30 [.imm] rQ f__law_parts) : Cal P w K mg base "_law_an_ask" 31 [.imm, .imm] rI f__law_an_ask :=
  d.cal (N := ["book", "draws", "ask"]) (m := 1) sc__law_an_ask rfl rfl good_I (.inl le_rfl) fun f cdv A outer s H E hr => by
    have tk : Takes (cxOf (L2.CX P w) P w K mg base ["book", "draws", "ask"] "_law_an_ask" (defScope s__law_an_ask) f cdv A outer s H E) (fun cls d _ H => E cls d H) := takes_of rfl rfl rfl rfl
    have po : PassesOwn (model (cxOf (L2.CX P w) P w K mg base ["book", "draws", "ask"] "_law_an_ask" (defScope s__law_an_ask) f cdv A outer s H E).prog w) (cxOf (L2.CX P w) P w K mg base ["book", "draws", "ask"] "_law_an_ask" (defScope s__law_an_ask) f cdv A outer s H E).A (cxOf (L2.CX P w) P w K mg base ["book", "draws", "ask"] "_law_an_ask" (defScope s__law_an_ask) f cdv A outer s H E).env (cxOf (L2.CX P w) P w K mg base ["book", "draws", "ask"] "_law_an_ask" (defScope s__law_an_ask) f cdv A outer s H E).xe := passes_of rfl
    exact ⟨[], dss_cons (ds_set sc__law_an_ask.nd rfl (by first | exact Or.inl rfl | exact Or.inr rfl) (de_fn c__law_ask good_I hr (by rfl) (passes_call tk (fun _ _ _ _ h => h)) (dg_imm (de_var 0) (dg_imm (de_var 1) (dg_imm (de_int) (dg_nil))))))
  (dss_cons (ds_while po (dt_cmp (do_gt hr.units) stay_E (fun _ _ _ h => bool_dGt h) ((de_fn c__law_parts good_Q hr (by rfl) (passes_call tk (fun _ _ _ _ h => h)) (dg_imm (de_var 2) (dg_nil))).le le_QE) ((de_int).le le_IE))
  (dss_one (ds_set sc__law_an_ask.nd rfl (by first | exact Or.inl rfl | exact Or.inr rfl) (de_ix ((de_var 2).le le_ID) ((de_int).le le_IE)))))
  (dss_one (ds_ret good_I (de_var 2) le_rfl)))⟩

theorem sc__law_tags : FnScope ["book", "draw", "found", "word"] ["book", "draw"] (defScope s__law_tags) := ⟨rfl, rfl, rfl, by decide +kernel, rfl, by decide +kernel, by decide +kernel⟩
theorem ok__law_tags (d : DefIn K mg "_law_tags" s__law_tags ["book", "draw"]) (B : Blt mg) : Cal P w K mg base "_law_tags" 1 [.imm, .imm] rI f__law_tags :=
  d.cal (N := ["book", "draw", "found", "word"]) (m := 2) sc__law_tags rfl rfl good_I (.inl le_rfl) fun f cdv A outer s H E hr => by
    have tk : Takes (cxOf (L2.CX P w) P w K mg base ["book", "draw", "found", "word"] "_law_tags" (defScope s__law_tags) f cdv A outer s H E) (fun cls d _ H => E cls d H) := takes_of rfl rfl rfl rfl
    have po : PassesOwn (model (cxOf (L2.CX P w) P w K mg base ["book", "draw", "found", "word"] "_law_tags" (defScope s__law_tags) f cdv A outer s H E).prog w) (cxOf (L2.CX P w) P w K mg base ["book", "draw", "found", "word"] "_law_tags" (defScope s__law_tags) f cdv A outer s H E).A (cxOf (L2.CX P w) P w K mg base ["book", "draw", "found", "word"] "_law_tags" (defScope s__law_tags) f cdv A outer s H E).env (cxOf (L2.CX P w) P w K mg base ["book", "draw", "found", "word"] "_law_tags" (defScope s__law_tags) f cdv A outer s H E).xe := passes_of rfl
    exact ⟨[], dss_cons (ds_set sc__law_tags.nd rfl (by first | exact Or.inl rfl | exact Or.inr rfl) (((de_lst (da_nil)).le le_NQ).fz))
  (dss_cons (ds_for po rfl (di_seq ((de_ix ((de_var 0).le le_ID) ((de_int).le le_IE)).le le_IP)) (dp_name sc__law_tags.nd rfl (by first | exact Or.inl rfl | exact Or.inr rfl))
  (dss_cons (ds_set sc__law_tags.nd rfl (by first | exact Or.inl rfl | exact Or.inr rfl) ((de_op do_add good_Q ((de_var 2).le le_IE) ((de_op do_mul good_Q ((de_lst (da_cons (de_var 3) (da_nil))).le le_NE) ((de_op do_mod good_I ((de_var 1).le le_IE) ((de_int).le le_IE)).le le_IE)).le le_QE)).fz))
  (dss_cons (ds_set sc__law_tags.nd rfl (by first | exact Or.inl rfl | exact Or.inr rfl) (de_op do_fdiv good_I ((de_var 1).le le_IE) ((de_int).le le_IE)))
  (dss_end [(3, .imm)]))))
  (dss_one (ds_ret good_I (de_t1 dc_tuple stay_E good_I (by rfl) B.tuple PyProof.Rows.boot_tuple ((de_var 2).le le_IE)) le_rfl)))⟩

theorem sc__law_rises : FnScope ["ask", "part"] ["ask"] (defScope s__law_rises) := ⟨rfl, rfl, rfl, by decide +kernel, rfl, by decide +kernel, by decide +kernel⟩
theorem okn__law_rises (d : DefIn K mg "_law_rises" s__law_rises ["ask"]) (B : Blt mg) : ∀ n : Nat, Cal P w K mg base "_law_rises" (0 + n) [.imm] rI (fn__law_rises n)
  | 0 => (Cal.none d).mono (Nat.zero_le _)
  | n + 1 => by
    have c__law_rises := okn__law_rises d B  n
    exact d.cal (N := ["ask", "part"]) (m := 1) sc__law_rises rfl rfl good_I (.inl le_rfl) fun f cdv A outer s H E hr => by
      have tk : Takes (cxOf (L2.CX P w) P w K mg base ["ask", "part"] "_law_rises" (defScope s__law_rises) f cdv A outer s H E) (fun cls d _ H => E cls d H) := takes_of rfl rfl rfl rfl
      have po : PassesOwn (model (cxOf (L2.CX P w) P w K mg base ["ask", "part"] "_law_rises" (defScope s__law_rises) f cdv A outer s H E).prog w) (cxOf (L2.CX P w) P w K mg base ["ask", "part"] "_law_rises" (defScope s__law_rises) f cdv A outer s H E).A (cxOf (L2.CX P w) P w K mg base ["ask", "part"] "_law_rises" (defScope s__law_rises) f cdv A outer s H E).env (cxOf (L2.CX P w) P w K mg base ["ask", "part"] "_law_rises" (defScope s__law_rises) f cdv A outer s H E).xe := passes_of rfl
      exact ⟨[], dss_cons (ds_if (dt_cmp (do_in hr.u65) stay_D (fun _ _ _ h => bool_dIn h) ((de_ix ((de_var 0).le le_ID) ((de_int).le le_IE)).le le_IE) ((de_tup (da_cons (de_str) (da_cons (de_str) (da_nil)))).le le_ID))
  (dss_one (ds_ret good_I (de_bl) le_rfl))
  (dss_nil))
  (dss_one (ds_ret good_I (de_or good_I le_ID (de_cmp (do_in hr.u65) stay_D ((de_ix ((de_var 0).le le_ID) ((de_int).le le_IE)).le le_IE) ((de_tup (da_cons (de_str) (da_cons (de_str) (da_nil)))).le le_ID)) (de_one (de_b1 (dc_all rfl) stay_E good_I (by rfl) B.all PyProof.Rows.boot_all ((de_lc (own := [("part", 1)]) (vs := [1]) rfl sc__law_rises.nd (di_seq (((de_slice ((de_var 0).le le_IE) (do_some ((de_int).le le_IE)) (do_none)).fz).le le_IP)) (blkOk_by (N := ["ask", "part"]) (sc := defScope s__law_rises) (by decide +kernel)) rfl (fun _ _ _ _ _ => dp_name sc__law_rises.nd rfl (by first | exact Or.inl rfl | exact Or.inr rfl)) (fun _ _ _ _ _ => dts_nil) (fun _ _ _ _ _ => de_fn c__law_rises good_I hr (by rfl) passL (dg_imm (de_var 1) (dg_nil)) (hk := by first | omega | (simp only [Nat.add_eq]; omega)))).le le_NE)))) le_rfl))⟩
theorem ok__law_rises (d : DefIn K mg "_law_rises" s__law_rises ["ask"]) (B : Blt mg) : Cal P w K mg base "_law_rises" 30 [.imm] rI f__law_rises := okn__law_rises d B  30

theorem sc__law_right : FnScope ["book", "tags", "ask", "told", "due", "word", "both", "lower", "less", "some", "other", "one"] ["book", "tags", "ask"] (defScope s__law_right) := ⟨rfl, rfl, rfl, by decide +kernel, rfl, by decide +kernel, by decide +kernel⟩
theorem ok__law_right (d : DefIn K mg "_law_right" s__law_right ["book", "tags", "ask"]) (B : Blt mg) (c_lean_tags : Cal P w K mg base "lean_tags" 3 [.imm, .imm] rI f_lean_tags) (c__law_up : Cal P w K mg base "_law_up" 1 [.imm, .imm] rN f__law_up) (c_are_lean : Cal P w K mg base "are_lean" 4 [.imm, .imm] rI f_are_lean) (c_reason : Cal P w K mg base "reason" 2 [.imm, .imm, .imm] rI f_reason) (c_places_of : Cal P w K mg base "places_of" 33 [.imm, .imm, .imm] rN f_places_of) (c__law_rises : Cal P w K mg base "_law_rises" 30 [.imm] rI f__law_rises) : Cal P w K mg base "_law_right" 34 [.imm, .imm, .imm] rI f__law_right :=
  d.cal (N := ["book", "tags", "ask", "told", "due", "word", "both", "lower", "less", "some", "other", "one"]) (m := 9) sc__law_right rfl rfl good_I (.inl le_rfl) fun f cdv A outer s H E hr => by
    have tk : Takes (cxOf (L2.CX P w) P w K mg base ["book", "tags", "ask", "told", "due", "word", "both", "lower", "less", "some", "other", "one"] "_law_right" (defScope s__law_right) f cdv A outer s H E) (fun cls d _ H => E cls d H) := takes_of rfl rfl rfl rfl
    have po : PassesOwn (model (cxOf (L2.CX P w) P w K mg base ["book", "tags", "ask", "told", "due", "word", "both", "lower", "less", "some", "other", "one"] "_law_right" (defScope s__law_right) f cdv A outer s H E).prog w) (cxOf (L2.CX P w) P w K mg base ["book", "tags", "ask", "told", "due", "word", "both", "lower", "less", "some", "other", "one"] "_law_right" (defScope s__law_right) f cdv A outer s H E).A (cxOf (L2.CX P w) P w K mg base ["book", "tags", "ask", "told", "due", "word", "both", "lower", "less", "some", "other", "one"] "_law_right" (defScope s__law_right) f cdv A outer s H E).env (cxOf (L2.CX P w) P w K mg base ["book", "tags", "ask", "told", "due", "word", "both", "lower", "less", "some", "other", "one"] "_law_right" (defScope s__law_right) f cdv A outer s H E).xe := passes_of rfl
    exact ⟨[], dss_cons (ds_set sc__law_right.nd rfl (by first | exact Or.inl rfl | exact Or.inr rfl) (de_fn c_lean_tags good_I hr (by rfl) (passes_call tk (fun _ _ _ _ h => h)) (dg_imm (de_var 0) (dg_imm (de_var 1) (dg_nil)))))
  (dss_cons (ds_set sc__law_right.nd rfl (by first | exact Or.inl rfl | exact Or.inr rfl) (((de_lst (da_nil)).le le_NQ).fz))
  (dss_cons (ds_for po rfl (di_seq ((de_var 1).le le_IP)) (dp_name sc__law_right.nd rfl (by first | exact Or.inl rfl | exact Or.inr rfl))
  (dss_cons (set_lc (ps_lc (own := [("other", 10)]) (vs := [10]) rfl sc__law_right.nd rfl rfl (sw_true rfl rfl rfl (by decide +kernel)) (di_seq ((de_var 1).le le_IP)) (blkOk_by (N := ["book", "tags", "ask", "told", "due", "word", "both", "lower", "less", "some", "other", "one"]) (sc := defScope s__law_right) (by decide +kernel)) rfl (fun _ _ _ _ _ => dp_name sc__law_right.nd rfl (by first | exact Or.inl rfl | exact Or.inr rfl)) (fun _ _ _ _ _ => dts_one (dt_cmp (do_in hr.u65) stay_D (fun _ _ _ h => bool_dIn h) ((de_var 5).le le_IE) ((de_fn c__law_up good_N hr (by rfl) passL (dg_imm (de_ix ((de_var 0).le le_ID) ((de_int).le le_IE)) (dg_imm (de_var 10) (dg_nil)))).le le_ND))) (fun _ _ _ _ _ => de_var 10)) (by decide))
  (dss_cons (ds_set sc__law_right.nd rfl (by first | exact Or.inl rfl | exact Or.inr rfl) ((de_op do_add good_Q ((de_var 4).le le_IE) ((de_op do_mul good_Q ((de_lst (da_cons (de_var 5) (da_nil))).le le_NE) ((de_t1 dc_int stay_E good_I (by rfl) B.int PyProof.Rows.boot_int ((de_cmp (do_eq hr.units) stay_E ((de_var 7).le le_IE) ((de_lst (da_nil)).le le_NE)).le le_IE)).le le_IE)).le le_QE)).fz))
  (dss_end [(7, .imm), (5, .imm)]))))
  (dss_cons (ds_if ((dw_or (dt_cmp (do_ne hr.units) stay_E (fun _ _ _ h => bool_dNe h) ((de_var 3).le le_IE) ((de_t1 dc_tuple stay_E good_I (by rfl) B.tuple PyProof.Rows.boot_tuple ((de_var 4).le le_IE)).le le_IE)) (dw_or (dt_cmp (do_ne hr.units) stay_E (fun _ _ _ h => bool_dNe h) ((de_fn c_are_lean good_I hr (by rfl) (passes_call tk (fun _ _ _ _ h => h)) (dg_imm (de_var 0) (dg_imm (de_var 1) (dg_nil)))).le le_IE) ((de_cmp (do_eq hr.units) stay_E ((de_var 3).le le_IE) ((de_var 1).le le_IE)).le le_IE)) (dw_or1 (dt_cmp (do_ne hr.units) stay_E (fun _ _ _ h => bool_dNe h) ((de_fn c_lean_tags good_I hr (by rfl) (passes_call tk (fun _ _ _ _ h => h)) (dg_imm (de_var 0) (dg_imm (de_var 3) (dg_nil)))).le le_IE) ((de_var 3).le le_IE))))).dt)
  (dss_one (ds_ret good_I (de_bl) le_rfl))
  (dss_nil))
  (dss_cons (ds_for po rfl (di_seq ((de_var 1).le le_IP)) (dp_name sc__law_right.nd rfl (by first | exact Or.inl rfl | exact Or.inr rfl))
  (dss_cons (ds_if ((dw_and (dt_cmp (do_notIn hr.u65) stay_D (fun _ _ _ h => bool_dNotIn h) ((de_var 5).le le_IE) ((de_var 3).le le_ID)) (dw_and1 (dt_cmp (do_eq hr.units) stay_E (fun _ _ _ h => bool_dEq h) ((de_lc (own := [("one", 11)]) (vs := [11]) rfl sc__law_right.nd (di_seq ((de_var 3).le le_IP)) (blkOk_by (N := ["book", "tags", "ask", "told", "due", "word", "both", "lower", "less", "some", "other", "one"]) (sc := defScope s__law_right) (by decide +kernel)) rfl (fun _ _ _ _ _ => dp_name sc__law_right.nd rfl (by first | exact Or.inl rfl | exact Or.inr rfl)) (fun _ _ _ _ _ => dts_one (dt_cmp (do_in hr.u65) stay_D (fun _ _ _ h => bool_dIn h) ((de_var 5).le le_IE) ((de_fn c__law_up good_N hr (by rfl) passL (dg_imm (de_ix ((de_var 0).le le_ID) ((de_int).le le_IE)) (dg_imm (de_var 11) (dg_nil)))).le le_ND))) (fun _ _ _ _ _ => de_var 11)).le le_NE) ((de_lst (da_nil)).le le_NE)))).dt)
  (dss_one (ds_ret good_I (de_bl) le_rfl))
  (dss_nil))
  (dss_cons (ds_if (dt_cmp (do_ne hr.units) stay_E (fun _ _ _ h => bool_dNe h) ((de_cmp (do_is) stay_E ((de_fn c_reason good_I hr (by rfl) (passes_call tk (fun _ _ _ _ h => h)) (dg_imm (de_var 0) (dg_imm (de_var 1) (dg_imm (de_var 5) (dg_nil))))).le le_IE) ((de_non).le le_IE)).le le_IE) ((de_cmp (do_is) stay_E ((de_fn c_reason good_I hr (by rfl) (passes_call tk (fun _ _ _ _ h => h)) (dg_imm (de_var 0) (dg_imm (de_var 3) (dg_imm (de_var 5) (dg_nil))))).le le_IE) ((de_non).le le_IE)).le le_IE))
  (dss_one (ds_ret good_I (de_bl) le_rfl))
  (dss_nil))
  (dss_end [(5, .imm)]))))
  (dss_cons (set_lc (ps_lc (own := [("some", 9)]) (vs := [9]) rfl sc__law_right.nd rfl rfl (sw_true rfl rfl rfl (by decide +kernel)) (di_seq ((de_tup (da_cons (de_var 1) (da_cons (de_var 3) (da_nil)))).le le_IP)) (blkOk_by (N := ["book", "tags", "ask", "told", "due", "word", "both", "lower", "less", "some", "other", "one"]) (sc := defScope s__law_right) (by decide +kernel)) rfl (fun _ _ _ _ _ => dp_name sc__law_right.nd rfl (by first | exact Or.inl rfl | exact Or.inr rfl)) (fun _ _ _ _ _ => dts_nil) (fun _ _ _ _ _ => ((de_fn c_places_of good_N hr (by rfl) passL (dg_imm (de_var 0) (dg_imm (((de_lst (da_cons (de_var 9) (da_nil))).le le_NQ).fz) (dg_imm (de_var 2) (dg_nil))))).le le_NQ).fz)) (by decide))
  (dss_cons (ds_if ((dw_and (dt_val ((de_fn c__law_rises good_I hr (by rfl) (passes_call tk (fun _ _ _ _ h => h)) (dg_imm (de_var 2) (dg_nil))).le le_ID)) (dw_and1 (dt_cmp (do_ne hr.units) stay_E (fun _ _ _ h => bool_dNe h) ((de_ix ((de_var 6).le le_ID) ((de_int).le le_IE)).le le_IE) ((de_ix ((de_var 6).le le_ID) ((de_int).le le_IE)).le le_IE)))).dt)
  (dss_one (ds_ret good_I (de_bl) le_rfl))
  (dss_nil))
  (dss_cons (ds_for po rfl (di_seq ((de_var 3).le le_IP)) (dp_name sc__law_right.nd rfl (by first | exact Or.inl rfl | exact Or.inr rfl))
  (dss_cons (ds_set sc__law_right.nd rfl (by first | exact Or.inl rfl | exact Or.inr rfl) (de_t1 dc_tuple stay_E good_I (by rfl) B.tuple PyProof.Rows.boot_tuple ((de_lc (own := [("one", 11)]) (vs := [11]) rfl sc__law_right.nd (di_seq ((de_var 3).le le_IP)) (blkOk_by (N := ["book", "tags", "ask", "told", "due", "word", "both", "lower", "less", "some", "other", "one"]) (sc := defScope s__law_right) (by decide +kernel)) rfl (fun _ _ _ _ _ => dp_name sc__law_right.nd rfl (by first | exact Or.inl rfl | exact Or.inr rfl)) (fun _ _ _ _ _ => dts_one (dt_cmp (do_ne hr.units) stay_E (fun _ _ _ h => bool_dNe h) ((de_var 11).le le_IE) ((de_var 5).le le_IE))) (fun _ _ _ _ _ => de_var 11)).le le_NE)))
  (dss_cons (ds_if ((dw_or (dt_cmp (do_ne hr.units) stay_E (fun _ _ _ h => bool_dNe h) ((de_lc (own := [("one", 11)]) (vs := [11]) rfl sc__law_right.nd (di_seq ((de_var 8).le le_IP)) (blkOk_by (N := ["book", "tags", "ask", "told", "due", "word", "both", "lower", "less", "some", "other", "one"]) (sc := defScope s__law_right) (by decide +kernel)) rfl (fun _ _ _ _ _ => dp_name sc__law_right.nd rfl (by first | exact Or.inl rfl | exact Or.inr rfl)) (fun _ _ _ _ _ => dts_one (dt_cmp (do_in hr.u65) stay_D (fun _ _ _ h => bool_dIn h) ((de_var 5).le le_IE) ((de_fn c__law_up good_N hr (by rfl) passL (dg_imm (de_ix ((de_var 0).le le_ID) ((de_int).le le_IE)) (dg_imm (de_var 11) (dg_nil)))).le le_ND))) (fun _ _ _ _ _ => de_var 11)).le le_NE) ((de_lst (da_nil)).le le_NE)) (dw_or1 (dt_cmp (do_ne hr.units) stay_E (fun _ _ _ h => bool_dNe h) ((de_fn c_lean_tags good_I hr (by rfl) (passes_call tk (fun _ _ _ _ h => h)) (dg_imm (de_var 0) (dg_imm (de_var 8) (dg_nil)))).le le_IE) ((de_var 8).le le_IE)))).dt)
  (dss_one (ds_ret good_I (de_bl) le_rfl))
  (dss_nil))
  (dss_end [(8, .imm), (5, .imm)]))))
  (dss_one (ds_ret good_I (de_cmp (do_is) stay_E ((de_fn c_are_lean good_I hr (by rfl) (passes_call tk (fun _ _ _ _ h => h)) (dg_imm (de_var 0) (dg_imm (de_var 3) (dg_nil)))).le le_IE) ((de_bl).le le_IE)) le_rfl)))))))))⟩

theorem sc_law : FnScope ["script", "at", "book", "draws", "k", "tags", "ask", "under"] ["script"] (defScope s_law) := ⟨rfl, rfl, rfl, by decide +kernel, rfl, by decide +kernel, by decide +kernel⟩
theorem ok_law {fA : Addr} {fd : FuncData} (F : Fun K "law" "law" s_law fA fd) (B : Blt mg) (c__law_a_book : Cal P w K mg base "_law_a_book" 3 [.dct, .imm, .imm] rI f__law_a_book) (c__law_draws : Cal P w K mg base "_law_draws" 2 [.dct, .imm, .imm, .imm] rN f__law_draws) (c__law_tags : Cal P w K mg base "_law_tags" 1 [.imm, .imm] rI f__law_tags) (c__law_an_ask : Cal P w K mg base "_law_an_ask" 31 [.imm, .imm] rI f__law_an_ask) (c__law_right : Cal P w K mg base "_law_right" 34 [.imm, .imm, .imm] rI f__law_right) : FnOk P w K mg base (L2.CX P w) 35 fA fd ["script"] (spF mg K [.dct] rI f_law) :=
  fn_ok (N := ["script", "at", "book", "draws", "k", "tags", "ask", "under"]) (m := 7) F sc_law rfl rfl good_I (.inl le_rfl) fun cdv A outer s H E hr => by
    have f := fA
    have tk : Takes (cxOf (L2.CX P w) P w K mg base ["script", "at", "book", "draws", "k", "tags", "ask", "under"] "law" (defScope s_law) fA cdv A outer s H E) (fun cls d _ H => E cls d H) := takes_of rfl rfl rfl rfl
    have po : PassesOwn (model (cxOf (L2.CX P w) P w K mg base ["script", "at", "book", "draws", "k", "tags", "ask", "under"] "law" (defScope s_law) fA cdv A outer s H E).prog w) (cxOf (L2.CX P w) P w K mg base ["script", "at", "book", "draws", "k", "tags", "ask", "under"] "law" (defScope s_law) fA cdv A outer s H E).A (cxOf (L2.CX P w) P w K mg base ["script", "at", "book", "draws", "k", "tags", "ask", "under"] "law" (defScope s_law) fA cdv A outer s H E).env (cxOf (L2.CX P w) P w K mg base ["script", "at", "book", "draws", "k", "tags", "ask", "under"] "law" (defScope s_law) fA cdv A outer s H E).xe := passes_of rfl
    exact ⟨[], dss_cons (ds_for po rfl (di_seq ((de_tup (da_cons (de_int) (da_cons (de_int) (da_cons (de_int) (da_nil))))).le le_IP)) (dp_name sc_law.nd rfl (by first | exact Or.inl rfl | exact Or.inr rfl))
  (dss_cons (ds_set sc_law.nd rfl (by first | exact Or.inl rfl | exact Or.inr rfl) (de_fn c__law_a_book good_I hr (by rfl) (passes_call tk (fun _ _ _ _ h => h)) (dg_dct (de_varF 0) (dg_imm (de_var 1) (dg_imm (de_int) (dg_nil))))))
  (dss_cons (ds_set sc_law.nd rfl (by first | exact Or.inl rfl | exact Or.inr rfl) (((de_fn c__law_draws good_N hr (by rfl) (passes_call tk (fun _ _ _ _ h => h)) (dg_dct (de_varF 0) (dg_imm ((de_op do_add good_Q ((de_var 1).le le_IE) ((de_int).le le_IE)).fz) (dg_imm (de_int) (dg_imm (de_int) (dg_nil)))))).le le_NQ).fz))
  (dss_cons (ds_for po rfl (di_range (by rfl) B.range ((de_int).le le_IE)) (dp_name sc_law.nd rfl (by first | exact Or.inl rfl | exact Or.inr rfl))
  (dss_cons (ds_set sc_law.nd rfl (by first | exact Or.inl rfl | exact Or.inr rfl) (de_fn c__law_tags good_I hr (by rfl) (passes_call tk (fun _ _ _ _ h => h)) (dg_imm (de_var 2) (dg_imm (de_ix ((de_var 3).le le_ID) ((de_var 4).le le_IE)) (dg_nil)))))
  (dss_cons (ds_set sc_law.nd rfl (by first | exact Or.inl rfl | exact Or.inr rfl) (de_fn c__law_an_ask good_I hr (by rfl) (passes_call tk (fun _ _ _ _ h => h)) (dg_imm (de_var 2) (dg_imm ((de_op do_add good_Q ((de_slice ((de_var 3).le le_IE) (do_some ((de_op do_mul good_Q ((de_int).le le_IE) ((de_var 4).le le_IE)).le le_QE)) (do_none)).le le_QE) ((de_slice ((de_var 3).le le_IE) (do_none) (do_some ((de_op do_mul good_Q ((de_int).le le_IE) ((de_var 4).le le_IE)).le le_QE))).le le_QE)).fz) (dg_nil)))))
  (dss_cons (ds_set sc_law.nd rfl (by first | exact Or.inl rfl | exact Or.inr rfl) (de_tup (da_cons (de_str) (da_nil))))
  (dss_cons (ds_if (dt_cmp (do_ne hr.units) stay_E (fun _ _ _ h => bool_dNe h) ((de_ix ((de_var 2).le le_ID) ((de_int).le le_IE)).le le_IE) ((de_tup (da_nil)).le le_IE))
  (dss_one (ds_set sc_law.nd rfl (by first | exact Or.inl rfl | exact Or.inr rfl) (de_tup (da_cons (de_str) (da_cons (de_ix ((de_ix ((de_var 2).le le_ID) ((de_int).le le_IE)).le le_ID) ((de_op do_mod good_I ((de_ix ((de_var 3).le le_ID) ((de_var 4).le le_IE)).le le_IE) ((de_b1 dc_len stay_D good_I (by rfl) B.len PySem.boot_len ((de_ix ((de_var 2).le le_ID) ((de_int).le le_IE)).le le_ID)).le le_IE)).le le_IE)) (da_nil))))))
  (dss_nil))
  (dss_cons (ds_if ((dw_or (dt_not (dt_val ((de_fn c__law_right good_I hr (by rfl) (passes_call tk (fun _ _ _ _ h => h)) (dg_imm (de_var 2) (dg_imm (de_var 5) (dg_imm (de_var 6) (dg_nil))))).le le_ID))) (dw_or1 (dt_not (dt_val ((de_fn c__law_right good_I hr (by rfl) (passes_call tk (fun _ _ _ _ h => h)) (dg_imm (de_var 2) (dg_imm (de_var 5) (dg_imm (de_var 7) (dg_nil))))).le le_ID))))).dt)
  (dss_one (ds_ret good_I (de_bl) le_rfl))
  (dss_nil))
  (dss_end [(5, .imm), (6, .imm), (7, .imm), (4, .imm)])))))))
  (dss_cons (ds_if (dt_not (dt_val ((de_fn c__law_right good_I hr (by rfl) (passes_call tk (fun _ _ _ _ h => h)) (dg_imm (de_var 2) (dg_imm (de_ix ((de_var 2).le le_ID) ((de_int).le le_IE)) (dg_imm (de_tup (da_cons (de_str) (da_nil))) (dg_nil))))).le le_ID)))
  (dss_one (ds_ret good_I (de_bl) le_rfl))
  (dss_nil))
  (dss_end [(2, .imm), (3, .imm), (4, .imm), (5, .imm), (6, .imm), (7, .imm), (1, .imm)]))))))
  (dss_one (ds_ret good_I (de_bl) le_rfl))⟩

theorem all_mk {l : PySem.W.OpenLaw} {w : World} {K : PySem.W.Frag} {h : Heap} {mg : Str → Option Value} {fa : Addr} (X : K.In h) (G : h.Ns mainGlobals mg) (hfa : mg "law" = some (.ref fa))
    (math : ∀ ns : List Int, ns.length ≤ 63 → f_law [.list (ns.map PyData.int)] = .ok (.bool true))
    {f0 : Addr} {od0 an0 : Option Addr} {sl0 : Array (Option Value)} {oc0 kV0 dc0 pm0 cd0 ct0 : Value}
    {f1 : Addr} {od1 an1 : Option Addr} {sl1 : Array (Option Value)} {oc1 kV1 dc1 pm1 cd1 ct1 : Value}
    {f2 : Addr} {od2 an2 : Option Addr} {sl2 : Array (Option Value)} {oc2 kV2 dc2 pm2 cd2 ct2 : Value}
    {f3 : Addr} {od3 an3 : Option Addr} {sl3 : Array (Option Value)} {oc3 kV3 dc3 pm3 cd3 ct3 : Value}
    {f4 : Addr} {od4 an4 : Option Addr} {sl4 : Array (Option Value)} {oc4 kV4 dc4 pm4 cd4 ct4 : Value}
    {f5 : Addr} {od5 an5 : Option Addr} {sl5 : Array (Option Value)} {oc5 kV5 dc5 pm5 cd5 ct5 : Value}
    {f6 : Addr} {od6 an6 : Option Addr} {sl6 : Array (Option Value)} {oc6 kV6 dc6 pm6 cd6 ct6 : Value}
    {f7 : Addr} {od7 an7 : Option Addr} {sl7 : Array (Option Value)} {oc7 kV7 dc7 pm7 cd7 ct7 : Value}
    {f8 : Addr} {od8 an8 : Option Addr} {sl8 : Array (Option Value)} {oc8 kV8 dc8 pm8 cd8 ct8 : Value}
    {f9 : Addr} {od9 an9 : Option Addr} {sl9 : Array (Option Value)} {oc9 kV9 dc9 pm9 cd9 ct9 : Value}
    {f10 : Addr} {od10 an10 : Option Addr} {sl10 : Array (Option Value)} {oc10 kV10 dc10 pm10 cd10 ct10 : Value}
    {f11 : Addr} {od11 an11 : Option Addr} {sl11 : Array (Option Value)} {oc11 kV11 dc11 pm11 cd11 ct11 : Value}
    {f12 : Addr} {od12 an12 : Option Addr} {sl12 : Array (Option Value)} {oc12 kV12 dc12 pm12 cd12 ct12 : Value}
    {f13 : Addr} {od13 an13 : Option Addr} {sl13 : Array (Option Value)} {oc13 kV13 dc13 pm13 cd13 ct13 : Value}
    {f14 : Addr} {od14 an14 : Option Addr} {sl14 : Array (Option Value)} {oc14 kV14 dc14 pm14 cd14 ct14 : Value}
    {f15 : Addr} {od15 an15 : Option Addr} {sl15 : Array (Option Value)} {oc15 kV15 dc15 pm15 cd15 ct15 : Value}
    {f16 : Addr} {od16 an16 : Option Addr} {sl16 : Array (Option Value)} {oc16 kV16 dc16 pm16 cd16 ct16 : Value}
    {f17 : Addr} {od17 an17 : Option Addr} {sl17 : Array (Option Value)} {oc17 kV17 dc17 pm17 cd17 ct17 : Value}
    {f18 : Addr} {od18 an18 : Option Addr} {sl18 : Array (Option Value)} {oc18 kV18 dc18 pm18 cd18 ct18 : Value}
    {f19 : Addr} {od19 an19 : Option Addr} {sl19 : Array (Option Value)} {oc19 kV19 dc19 pm19 cd19 ct19 : Value}
    {f20 : Addr} {od20 an20 : Option Addr} {sl20 : Array (Option Value)} {oc20 kV20 dc20 pm20 cd20 ct20 : Value}
    {f21 : Addr} {od21 an21 : Option Addr} {sl21 : Array (Option Value)} {oc21 kV21 dc21 pm21 cd21 ct21 : Value}
    {f22 : Addr} {od22 an22 : Option Addr} {sl22 : Array (Option Value)} {oc22 kV22 dc22 pm22 cd22 ct22 : Value}
    {f23 : Addr} {od23 an23 : Option Addr} {sl23 : Array (Option Value)} {oc23 kV23 dc23 pm23 cd23 ct23 : Value}
    {d_NAMED : Addr} {dd_NAMED : Option Addr} {its_NAMED : Array Value} {n_NAMED : Nat} {sl_NAMED : Array (Option Value)}
    (a0 : PySem.W.nsIn K mainGlobals "up_from" = some (some (.ref f0))) (l0 : K.lookup f0 = some ⟨oc0, od0, .func (PySem.W.fnOf "up_from" "up_from" (defArgs s_up_from) (defBody s_up_from) (defScope s_up_from) .none kV0 dc0 pm0 an0 cd0 ct0), sl0⟩) (c0 : PySem.W.codeIn K cd0 "up_from" = true) (k0 : PySem.W.keepIn K (.ref f0) = true)
    (a1 : PySem.W.nsIn K mainGlobals "above" = some (some (.ref f1))) (l1 : K.lookup f1 = some ⟨oc1, od1, .func (PySem.W.fnOf "above" "above" (defArgs s_above) (defBody s_above) (defScope s_above) .none kV1 dc1 pm1 an1 cd1 ct1), sl1⟩) (c1 : PySem.W.codeIn K cd1 "above" = true) (k1 : PySem.W.keepIn K (.ref f1) = true)
    (a2 : PySem.W.nsIn K mainGlobals "chain" = some (some (.ref f2))) (l2 : K.lookup f2 = some ⟨oc2, od2, .func (PySem.W.fnOf "chain" "chain" (defArgs s_chain) (defBody s_chain) (defScope s_chain) .none kV2 dc2 pm2 an2 cd2 ct2), sl2⟩) (c2 : PySem.W.codeIn K cd2 "chain" = true) (k2 : PySem.W.keepIn K (.ref f2) = true)
    (a3 : PySem.W.nsIn K mainGlobals "lean_tags" = some (some (.ref f3))) (l3 : K.lookup f3 = some ⟨oc3, od3, .func (PySem.W.fnOf "lean_tags" "lean_tags" (defArgs s_lean_tags) (defBody s_lean_tags) (defScope s_lean_tags) .none kV3 dc3 pm3 an3 cd3 ct3), sl3⟩) (c3 : PySem.W.codeIn K cd3 "lean_tags" = true) (k3 : PySem.W.keepIn K (.ref f3) = true)
    (a4 : PySem.W.nsIn K mainGlobals "are_lean" = some (some (.ref f4))) (l4 : K.lookup f4 = some ⟨oc4, od4, .func (PySem.W.fnOf "are_lean" "are_lean" (defArgs s_are_lean) (defBody s_are_lean) (defScope s_are_lean) .none kV4 dc4 pm4 an4 cd4 ct4), sl4⟩) (c4 : PySem.W.codeIn K cd4 "are_lean" = true) (k4 : PySem.W.keepIn K (.ref f4) = true)
    (a5 : PySem.W.nsIn K mainGlobals "word_of" = some (some (.ref f5))) (l5 : K.lookup f5 = some ⟨oc5, od5, .func (PySem.W.fnOf "word_of" "word_of" (defArgs s_word_of) (defBody s_word_of) (defScope s_word_of) .none kV5 dc5 pm5 an5 cd5 ct5), sl5⟩) (c5 : PySem.W.codeIn K cd5 "word_of" = true) (k5 : PySem.W.keepIn K (.ref f5) = true)
    (a6 : PySem.W.nsIn K mainGlobals "plain" = some (some (.ref f6))) (l6 : K.lookup f6 = some ⟨oc6, od6, .func (PySem.W.fnOf "plain" "plain" (defArgs s_plain) (defBody s_plain) (defScope s_plain) .none kV6 dc6 pm6 an6 cd6 ct6), sl6⟩) (c6 : PySem.W.codeIn K cd6 "plain" = true) (k6 : PySem.W.keepIn K (.ref f6) = true)
    (a7 : PySem.W.nsIn K mainGlobals "finds" = some (some (.ref f7))) (l7 : K.lookup f7 = some ⟨oc7, od7, .func (PySem.W.fnOf "finds" "finds" (defArgs s_finds) (defBody s_finds) (defScope s_finds) .none kV7 dc7 pm7 an7 cd7 ct7), sl7⟩) (c7 : PySem.W.codeIn K cd7 "finds" = true) (k7 : PySem.W.keepIn K (.ref f7) = true)
    (a8 : PySem.W.nsIn K mainGlobals "places_of" = some (some (.ref f8))) (l8 : K.lookup f8 = some ⟨oc8, od8, .func (PySem.W.fnOf "places_of" "places_of" (defArgs s_places_of) (defBody s_places_of) (defScope s_places_of) .none kV8 dc8 pm8 an8 cd8 ct8), sl8⟩) (c8 : PySem.W.codeIn K cd8 "places_of" = true) (k8 : PySem.W.keepIn K (.ref f8) = true)
    (a9 : PySem.W.nsIn K mainGlobals "reason" = some (some (.ref f9))) (l9 : K.lookup f9 = some ⟨oc9, od9, .func (PySem.W.fnOf "reason" "reason" (defArgs s_reason) (defBody s_reason) (defScope s_reason) .none kV9 dc9 pm9 an9 cd9 ct9), sl9⟩) (c9 : PySem.W.codeIn K cd9 "reason" = true) (k9 : PySem.W.keepIn K (.ref f9) = true)
    (a10 : PySem.W.nsIn K mainGlobals "_law_cell" = some (some (.ref f10))) (l10 : K.lookup f10 = some ⟨oc10, od10, .func (PySem.W.fnOf "_law_cell" "_law_cell" (defArgs s__law_cell) (defBody s__law_cell) (defScope s__law_cell) .none kV10 dc10 pm10 an10 cd10 ct10), sl10⟩) (c10 : PySem.W.codeIn K cd10 "_law_cell" = true) (k10 : PySem.W.keepIn K (.ref f10) = true)
    (a11 : PySem.W.nsIn K mainGlobals "_law_draws" = some (some (.ref f11))) (l11 : K.lookup f11 = some ⟨oc11, od11, .func (PySem.W.fnOf "_law_draws" "_law_draws" (defArgs s__law_draws) (defBody s__law_draws) (defScope s__law_draws) .none kV11 dc11 pm11 an11 cd11 ct11), sl11⟩) (c11 : PySem.W.codeIn K cd11 "_law_draws" = true) (k11 : PySem.W.keepIn K (.ref f11) = true)
    (a12 : PySem.W.nsIn K mainGlobals "_law_pool" = some (some (.ref f12))) (l12 : K.lookup f12 = some ⟨oc12, od12, .func (PySem.W.fnOf "_law_pool" "_law_pool" (defArgs s__law_pool) (defBody s__law_pool) (defScope s__law_pool) .none kV12 dc12 pm12 an12 cd12 ct12), sl12⟩) (c12 : PySem.W.codeIn K cd12 "_law_pool" = true) (k12 : PySem.W.keepIn K (.ref f12) = true)
    (a13 : PySem.W.nsIn K mainGlobals "_law_mixed" = some (some (.ref f13))) (l13 : K.lookup f13 = some ⟨oc13, od13, .func (PySem.W.fnOf "_law_mixed" "_law_mixed" (defArgs s__law_mixed) (defBody s__law_mixed) (defScope s__law_mixed) .none kV13 dc13 pm13 an13 cd13 ct13), sl13⟩) (c13 : PySem.W.codeIn K cd13 "_law_mixed" = true) (k13 : PySem.W.keepIn K (.ref f13) = true)
    (a14 : PySem.W.nsIn K mainGlobals "_law_up" = some (some (.ref f14))) (l14 : K.lookup f14 = some ⟨oc14, od14, .func (PySem.W.fnOf "_law_up" "_law_up" (defArgs s__law_up) (defBody s__law_up) (defScope s__law_up) .none kV14 dc14 pm14 an14 cd14 ct14), sl14⟩) (c14 : PySem.W.codeIn K cd14 "_law_up" = true) (k14 : PySem.W.keepIn K (.ref f14) = true)
    (a15 : PySem.W.nsIn K mainGlobals "_law_book" = some (some (.ref f15))) (l15 : K.lookup f15 = some ⟨oc15, od15, .func (PySem.W.fnOf "_law_book" "_law_book" (defArgs s__law_book) (defBody s__law_book) (defScope s__law_book) .none kV15 dc15 pm15 an15 cd15 ct15), sl15⟩) (c15 : PySem.W.codeIn K cd15 "_law_book" = true) (k15 : PySem.W.keepIn K (.ref f15) = true)
    (a16 : PySem.W.nsIn K mainGlobals "_law_a_book" = some (some (.ref f16))) (l16 : K.lookup f16 = some ⟨oc16, od16, .func (PySem.W.fnOf "_law_a_book" "_law_a_book" (defArgs s__law_a_book) (defBody s__law_a_book) (defScope s__law_a_book) .none kV16 dc16 pm16 an16 cd16 ct16), sl16⟩) (c16 : PySem.W.codeIn K cd16 "_law_a_book" = true) (k16 : PySem.W.keepIn K (.ref f16) = true)
    (a17 : PySem.W.nsIn K mainGlobals "_law_ask" = some (some (.ref f17))) (l17 : K.lookup f17 = some ⟨oc17, od17, .func (PySem.W.fnOf "_law_ask" "_law_ask" (defArgs s__law_ask) (defBody s__law_ask) (defScope s__law_ask) .none kV17 dc17 pm17 an17 cd17 ct17), sl17⟩) (c17 : PySem.W.codeIn K cd17 "_law_ask" = true) (k17 : PySem.W.keepIn K (.ref f17) = true)
    (a18 : PySem.W.nsIn K mainGlobals "_law_parts" = some (some (.ref f18))) (l18 : K.lookup f18 = some ⟨oc18, od18, .func (PySem.W.fnOf "_law_parts" "_law_parts" (defArgs s__law_parts) (defBody s__law_parts) (defScope s__law_parts) .none kV18 dc18 pm18 an18 cd18 ct18), sl18⟩) (c18 : PySem.W.codeIn K cd18 "_law_parts" = true) (k18 : PySem.W.keepIn K (.ref f18) = true)
    (a19 : PySem.W.nsIn K mainGlobals "_law_an_ask" = some (some (.ref f19))) (l19 : K.lookup f19 = some ⟨oc19, od19, .func (PySem.W.fnOf "_law_an_ask" "_law_an_ask" (defArgs s__law_an_ask) (defBody s__law_an_ask) (defScope s__law_an_ask) .none kV19 dc19 pm19 an19 cd19 ct19), sl19⟩) (c19 : PySem.W.codeIn K cd19 "_law_an_ask" = true) (k19 : PySem.W.keepIn K (.ref f19) = true)
    (a20 : PySem.W.nsIn K mainGlobals "_law_tags" = some (some (.ref f20))) (l20 : K.lookup f20 = some ⟨oc20, od20, .func (PySem.W.fnOf "_law_tags" "_law_tags" (defArgs s__law_tags) (defBody s__law_tags) (defScope s__law_tags) .none kV20 dc20 pm20 an20 cd20 ct20), sl20⟩) (c20 : PySem.W.codeIn K cd20 "_law_tags" = true) (k20 : PySem.W.keepIn K (.ref f20) = true)
    (a21 : PySem.W.nsIn K mainGlobals "_law_rises" = some (some (.ref f21))) (l21 : K.lookup f21 = some ⟨oc21, od21, .func (PySem.W.fnOf "_law_rises" "_law_rises" (defArgs s__law_rises) (defBody s__law_rises) (defScope s__law_rises) .none kV21 dc21 pm21 an21 cd21 ct21), sl21⟩) (c21 : PySem.W.codeIn K cd21 "_law_rises" = true) (k21 : PySem.W.keepIn K (.ref f21) = true)
    (a22 : PySem.W.nsIn K mainGlobals "_law_right" = some (some (.ref f22))) (l22 : K.lookup f22 = some ⟨oc22, od22, .func (PySem.W.fnOf "_law_right" "_law_right" (defArgs s__law_right) (defBody s__law_right) (defScope s__law_right) .none kV22 dc22 pm22 an22 cd22 ct22), sl22⟩) (c22 : PySem.W.codeIn K cd22 "_law_right" = true) (k22 : PySem.W.keepIn K (.ref f22) = true)
    (a23 : PySem.W.nsIn K mainGlobals "law" = some (some (.ref f23))) (l23 : K.lookup f23 = some ⟨oc23, od23, .func (PySem.W.fnOf "law" "law" (defArgs s_law) (defBody s_law) (defScope s_law) .none kV23 dc23 pm23 an23 cd23 ct23), sl23⟩) (c23 : PySem.W.codeIn K cd23 "law" = true) (k23 : PySem.W.keepIn K (.ref f23) = true)
    (z_len : PySem.W.nsIn K mainGlobals "len" = some none)
    (z_isinstance : PySem.W.nsIn K mainGlobals "isinstance" = some none)
    (z_tuple : PySem.W.nsIn K mainGlobals "tuple" = some none)
    (z_list : PySem.W.nsIn K mainGlobals "list" = some none)
    (z_dict : PySem.W.nsIn K mainGlobals "dict" = some none)
    (z_set : PySem.W.nsIn K mainGlobals "set" = some none)
    (z_str : PySem.W.nsIn K mainGlobals "str" = some none)
    (z_int : PySem.W.nsIn K mainGlobals "int" = some none)
    (z_bool : PySem.W.nsIn K mainGlobals "bool" = some none)
    (z_all : PySem.W.nsIn K mainGlobals "all" = some none)
    (z_any : PySem.W.nsIn K mainGlobals "any" = some none)
    (z_sum : PySem.W.nsIn K mainGlobals "sum" = some none)
    (z_max : PySem.W.nsIn K mainGlobals "max" = some none)
    (z_min : PySem.W.nsIn K mainGlobals "min" = some none)
    (z_sorted : PySem.W.nsIn K mainGlobals "sorted" = some none)
    (z_range : PySem.W.nsIn K mainGlobals "range" = some none)
    (z_zip : PySem.W.nsIn K mainGlobals "zip" = some none)
    (z_enumerate : PySem.W.nsIn K mainGlobals "enumerate" = some none)
    (i_NAMED : PySem.W.nsIn K mainGlobals "NAMED" = some (some (.ref d_NAMED)))
    (o_NAMED : K.lookup d_NAMED = some ⟨.type "tuple", dd_NAMED, .seq its_NAMED n_NAMED, sl_NAMED⟩)
    (v_NAMED : its_NAMED.toList.map strV = [("only" : Str), ("under" : Str), ("by" : Str)].map some) :
    ∃ fd : FuncData, (∀ (s : Shared) (v : Value), BindsTo s fd ⟨[v], []⟩ [("script", v)]) ∧ ∀ base : Heap, K.In base → base.Ns mainGlobals mg → FnOk l.prog w K mg base (L2.CX l.prog w) 35 fa fd ["script"] (spLaw K) := by
  have e := hfa.symm.trans (PySem.W.mg_of X G a23)
  cases e
  have B : Blt mg := ⟨PySem.W.mg_none_of X G z_len, PySem.W.mg_none_of X G z_isinstance, PySem.W.mg_none_of X G z_tuple, PySem.W.mg_none_of X G z_list, PySem.W.mg_none_of X G z_dict, PySem.W.mg_none_of X G z_set, PySem.W.mg_none_of X G z_str, PySem.W.mg_none_of X G z_int, PySem.W.mg_none_of X G z_bool, PySem.W.mg_none_of X G z_all, PySem.W.mg_none_of X G z_any, PySem.W.mg_none_of X G z_sum, PySem.W.mg_none_of X G z_max, PySem.W.mg_none_of X G z_min, PySem.W.mg_none_of X G z_sorted, PySem.W.mg_none_of X G z_range, PySem.W.mg_none_of X G z_zip, PySem.W.mg_none_of X G z_enumerate⟩
  have d_up_from : DefIn K mg "up_from" s_up_from ["broads", "name"] := defIn_mk X G a0 l0 c0 k0 fun _ _ _ _ _ _ us hl => match us, hl with | [_, _], _ => rfl
  have d_above : DefIn K mg "above" s_above ["book", "word"] := defIn_mk X G a1 l1 c1 k1 fun _ _ _ _ _ _ us hl => match us, hl with | [_, _], _ => rfl
  have d_chain : DefIn K mg "chain" s_chain ["book", "low", "high"] := defIn_mk X G a2 l2 c2 k2 fun _ _ _ _ _ _ us hl => match us, hl with | [_, _, _], _ => rfl
  have d_lean_tags : DefIn K mg "lean_tags" s_lean_tags ["book", "tags"] := defIn_mk X G a3 l3 c3 k3 fun _ _ _ _ _ _ us hl => match us, hl with | [_, _], _ => rfl
  have d_are_lean : DefIn K mg "are_lean" s_are_lean ["book", "tags"] := defIn_mk X G a4 l4 c4 k4 fun _ _ _ _ _ _ us hl => match us, hl with | [_, _], _ => rfl
  have d_word_of : DefIn K mg "word_of" s_word_of ["book", "name"] := defIn_mk X G a5 l5 c5 k5 fun _ _ _ _ _ _ us hl => match us, hl with | [_, _], _ => rfl
  have d_plain : DefIn K mg "plain" s_plain ["book", "ask"] := defIn_mk X G a6 l6 c6 k6 fun _ _ _ _ _ _ us hl => match us, hl with | [_, _], _ => rfl
  have d_finds : DefIn K mg "finds" s_finds ["book", "tags", "ask"] := defIn_mk X G a7 l7 c7 k7 fun _ _ _ _ _ _ us hl => match us, hl with | [_, _, _], _ => rfl
  have d_places_of : DefIn K mg "places_of" s_places_of ["book", "shelf", "ask"] := defIn_mk X G a8 l8 c8 k8 fun _ _ _ _ _ _ us hl => match us, hl with | [_, _, _], _ => rfl
  have d_reason : DefIn K mg "reason" s_reason ["book", "tags", "name"] := defIn_mk X G a9 l9 c9 k9 fun _ _ _ _ _ _ us hl => match us, hl with | [_, _, _], _ => rfl
  have d__law_cell : DefIn K mg "_law_cell" s__law_cell ["script", "k"] := defIn_mk X G a10 l10 c10 k10 fun _ _ _ _ _ _ us hl => match us, hl with | [_, _], _ => rfl
  have d__law_draws : DefIn K mg "_law_draws" s__law_draws ["script", "k", "many", "base"] := defIn_mk X G a11 l11 c11 k11 fun _ _ _ _ _ _ us hl => match us, hl with | [_, _, _, _], _ => rfl
  have d__law_pool : DefIn K mg "_law_pool" s__law_pool [] := defIn_mk X G a12 l12 c12 k12 fun _ _ _ _ _ _ us hl => match us, hl with | [], _ => rfl
  have d__law_mixed : DefIn K mg "_law_mixed" s__law_mixed ["some", "draws"] := defIn_mk X G a13 l13 c13 k13 fun _ _ _ _ _ _ us hl => match us, hl with | [_, _], _ => rfl
  have d__law_up : DefIn K mg "_law_up" s__law_up ["broads", "word"] := defIn_mk X G a14 l14 c14 k14 fun _ _ _ _ _ _ us hl => match us, hl with | [_, _], _ => rfl
  have d__law_book : DefIn K mg "_law_book" s__law_book ["draws", "many"] := defIn_mk X G a15 l15 c15 k15 fun _ _ _ _ _ _ us hl => match us, hl with | [_, _], _ => rfl
  have d__law_a_book : DefIn K mg "_law_a_book" s__law_a_book ["script", "at", "many"] := defIn_mk X G a16 l16 c16 k16 fun _ _ _ _ _ _ us hl => match us, hl with | [_, _, _], _ => rfl
  have d__law_ask : DefIn K mg "_law_ask" s__law_ask ["book", "draws", "deep"] := defIn_mk X G a17 l17 c17 k17 fun _ _ _ _ _ _ us hl => match us, hl with | [_, _, _], _ => rfl
  have d__law_parts : DefIn K mg "_law_parts" s__law_parts ["ask"] := defIn_mk X G a18 l18 c18 k18 fun _ _ _ _ _ _ us hl => match us, hl with | [_], _ => rfl
  have d__law_an_ask : DefIn K mg "_law_an_ask" s__law_an_ask ["book", "draws"] := defIn_mk X G a19 l19 c19 k19 fun _ _ _ _ _ _ us hl => match us, hl with | [_, _], _ => rfl
  have d__law_tags : DefIn K mg "_law_tags" s__law_tags ["book", "draw"] := defIn_mk X G a20 l20 c20 k20 fun _ _ _ _ _ _ us hl => match us, hl with | [_, _], _ => rfl
  have d__law_rises : DefIn K mg "_law_rises" s__law_rises ["ask"] := defIn_mk X G a21 l21 c21 k21 fun _ _ _ _ _ _ us hl => match us, hl with | [_], _ => rfl
  have d__law_right : DefIn K mg "_law_right" s__law_right ["book", "tags", "ask"] := defIn_mk X G a22 l22 c22 k22 fun _ _ _ _ _ _ us hl => match us, hl with | [_, _, _], _ => rfl
  have q_NAMED : TupC K mg "NAMED" ["only", "under", "by"] := tupC_mk (PySem.W.mg_of X G i_NAMED) o_NAMED v_NAMED (by decide)
  refine ⟨PySem.W.fnOf "law" "law" (defArgs s_law) (defBody s_law) (defScope s_law) .none kV23 dc23 pm23 an23 cd23 ct23, fun s v => .of_eq rfl, fun base _ _ => ?_⟩
  have c_up_from : Cal l.prog w K mg base "up_from" 1 [.imm, .imm] rM f_up_from := ok_up_from d_up_from B 
  have c_above : Cal l.prog w K mg base "above" 2 [.imm, .imm] rN f_above := ok_above d_above B c_up_from
  have c_chain : Cal l.prog w K mg base "chain" 1 [.imm, .imm, .imm] rI f_chain := ok_chain d_chain B 
  have c_lean_tags : Cal l.prog w K mg base "lean_tags" 3 [.imm, .imm] rI f_lean_tags := ok_lean_tags d_lean_tags B c_above
  have c_are_lean : Cal l.prog w K mg base "are_lean" 4 [.imm, .imm] rI f_are_lean := ok_are_lean d_are_lean B c_lean_tags
  have c_word_of : Cal l.prog w K mg base "word_of" 1 [.imm, .imm] rI f_word_of := ok_word_of d_word_of B 
  have c_plain : Cal l.prog w K mg base "plain" 31 [.imm, .imm] rQ f_plain := ok_plain d_plain B q_NAMED c_word_of
  have c_finds : Cal l.prog w K mg base "finds" 32 [.imm, .imm, .imm] rI f_finds := ok_finds d_finds B c_above
  have c_places_of : Cal l.prog w K mg base "places_of" 33 [.imm, .imm, .imm] rN f_places_of := ok_places_of d_places_of B c_plain c_finds
  have c_reason : Cal l.prog w K mg base "reason" 2 [.imm, .imm, .imm] rI f_reason := ok_reason d_reason B c_chain c_word_of
  have c__law_cell : Cal l.prog w K mg base "_law_cell" 1 [.dct, .imm] rQ f__law_cell := ok__law_cell d__law_cell B 
  have c__law_draws : Cal l.prog w K mg base "_law_draws" 2 [.dct, .imm, .imm, .imm] rN f__law_draws := ok__law_draws d__law_draws B c__law_cell
  have c__law_pool : Cal l.prog w K mg base "_law_pool" 1 [] rN f__law_pool := ok__law_pool d__law_pool B 
  have c__law_mixed : Cal l.prog w K mg base "_law_mixed" 1 [.imm, .imm] rN f__law_mixed := ok__law_mixed d__law_mixed B 
  have c__law_up : Cal l.prog w K mg base "_law_up" 1 [.imm, .imm] rN f__law_up := ok__law_up d__law_up B 
  have c__law_book : Cal l.prog w K mg base "_law_book" 2 [.imm, .imm] rI f__law_book := ok__law_book d__law_book B c__law_mixed c__law_pool c__law_up
  have c__law_a_book : Cal l.prog w K mg base "_law_a_book" 3 [.dct, .imm, .imm] rI f__law_a_book := ok__law_a_book d__law_a_book B c__law_book c__law_draws
  have c__law_ask : Cal l.prog w K mg base "_law_ask" 30 [.imm, .imm, .imm] rI f__law_ask := ok__law_ask d__law_ask B 
  have c__law_parts : Cal l.prog w K mg base "_law_parts" 30 [.imm] rQ f__law_parts := ok__law_parts d__law_parts B 
  have c__law_an_ask : Cal l.prog w K mg base "_law_an_ask" 31 [.imm, .imm] rI f__law_an_ask := ok__law_an_ask d__law_an_ask B c__law_ask c__law_parts
  have c__law_tags : Cal l.prog w K mg base "_law_tags" 1 [.imm, .imm] rI f__law_tags := ok__law_tags d__law_tags B 
  have c__law_rises : Cal l.prog w K mg base "_law_rises" 30 [.imm] rI f__law_rises := ok__law_rises d__law_rises B 
  have c__law_right : Cal l.prog w K mg base "_law_right" 34 [.imm, .imm, .imm] rI f__law_right := ok__law_right d__law_right B c_lean_tags c__law_up c_are_lean c_reason c_places_of c__law_rises
  exact law_imp (ok_law (fun_mk (st := s_law) l23 c23 k23) B c__law_a_book c__law_draws c__law_tags c__law_an_ask c__law_right) math

end
end W
set_option Elab.async false
set_option linter.all false
set_option maxRecDepth 100000
set_option maxHeartbeats 1000000
/-! MR: what is reached. -/
namespace W
open PySem PySem.Spec PyProof.Rows L2 PL

abbrev sD (xs : List Str) : List D := xs.map PyData.str
/-- one step or more along the pairs -/
inductive Reach (E : List (Str × Str)) : Str → Str → Prop
  | one {a b : Str} : (a, b) ∈ E → Reach E a b
  | more {a b c : Str} : (a, b) ∈ E → Reach E b c → Reach E a c
theorem Reach.snoc {E : List (Str × Str)} {a b c : Str} (h : Reach E a b) (h2 : (b, c) ∈ E) : Reach E a c := by
  induction h with
  | one h => exact .more h (.one h2)
  | more h _ ih => exact .more h (ih h2)
theorem Reach.trans {E : List (Str × Str)} {a b c : Str} (h : Reach E a b) (h2 : Reach E b c) : Reach E a c := by
  induction h with
  | one h => exact .more h h2
  | more h _ ih => exact .more h (ih h2)
theorem Reach.mono {E E' : List (Str × Str)} (s : ∀ p, p ∈ E → p ∈ E') {a b : Str} (h : Reach E a b) : Reach E' a b := by
  induction h with
  | one h => exact .one (s _ h)
  | more h _ ih => exact .more (s _ h) ih
theorem Reach.last {E : List (Str × Str)} {a b : Str} (h : Reach E a b) : ∃ c, (c, b) ∈ E := by
  induction h with
  | one h => exact ⟨_, h⟩
  | more _ _ ih => exact ih
theorem Reach.first {E : List (Str × Str)} {a b : Str} (h : Reach E a b) : ∃ c, (a, c) ∈ E := by
  cases h with
  | one h => exact ⟨_, h⟩
  | more h _ => exact ⟨_, h⟩
theorem Reach.flip {E : List (Str × Str)} {a b : Str} (h : Reach E a b) : Reach (E.map fun p => (p.2, p.1)) b a := by
  induction h with
  | one h => exact .one (List.mem_map.mpr ⟨_, h, rfl⟩)
  | more h _ ih => exact ih.snoc (List.mem_map.mpr ⟨_, h, rfl⟩)
theorem reach_flip {E : List (Str × Str)} {a b : Str} : Reach (E.map fun p => (p.2, p.1)) b a ↔ Reach E a b := by
  refine ⟨fun h => ?_, Reach.flip⟩
  have := h.flip
  rw [List.map_map] at this
  have e : (E.map ((fun p : Str × Str => (p.2, p.1)) ∘ fun p => (p.2, p.1))) = E := by
    rw [show ((fun p : Str × Str => (p.2, p.1)) ∘ fun p => (p.2, p.1)) = id from rfl, List.map_id]
  rwa [e] at this

/-! ### up_from -/
def dk (K : List Str) : List (D × D) := K.map fun k => (.str k, .bool true)
theorem dk_len (K : List Str) : (dk K).length = K.length := by simp [dk]
theorem dk_mark (K : List Str) : markT (dk K) = false := by cases K <;> rfl
theorem dk_fit (K : List Str) (b : Str) : keyFit (dk K) (.str b) = true := by unfold keyFit; rw [dk_mark, if_neg (by decide)]; rfl
theorem dk_find (b : Str) : ∀ K : List Str, dFind (dk K) (.str b) = if b ∈ K then some (.bool true) else none
  | [] => rfl
  | k :: K => by
    show dFind ((.str k, .bool true) :: dk K) (.str b) = _
    unfold dFind
    by_cases h : k = b
    · subst h; simp
    · rw [if_neg (fun z => h (by injection z)), dk_find b K]
      simp [show ¬ b = k from fun z => h z.symm]
theorem dk_set {b : Str} {K : List Str} (h : b ∉ K) : dSet (dk K) (.str b) (.bool true) = dk (K ++ [b]) := by
  unfold dSet
  rw [if_neg]
  · simp [dk]
  · intro z
    obtain ⟨p, hp, e⟩ := List.any_eq_true.mp z
    obtain ⟨k, hk, rfl⟩ := List.mem_map.mp hp
    have := of_decide_eq_true e
    injection this with this
    exact h (this ▸ hk)
/-- the new ones of a step -/
noncomputable def news (here : Str) : List Str → List (Str × Str) → List Str
  | _, [] => []
  | K, (a, b) :: r => open Classical in if a = here ∧ b ∉ K then b :: news here (K ++ [b]) r else news here K r
theorem news_sub (here : Str) : ∀ (E : List (Str × Str)) (K : List Str) (x : Str), x ∈ news here K E → (here, x) ∈ E ∧ x ∉ K
  | [], _, _, h => absurd h List.not_mem_nil
  | (a, b) :: r, K, x, h => by
    unfold news at h
    split at h
    · rename_i hc
      rcases List.mem_cons.mp h with e | h
      · rw [e, ← hc.1]; exact ⟨List.mem_cons_self, hc.2⟩
      · obtain ⟨h1, h2⟩ := news_sub here r _ x h
        exact ⟨List.mem_cons_of_mem _ h1, fun z => h2 (List.mem_append_left _ z)⟩
    · obtain ⟨h1, h2⟩ := news_sub here r K x h
      exact ⟨List.mem_cons_of_mem _ h1, h2⟩
theorem news_all (here : Str) : ∀ (E : List (Str × Str)) (K : List Str) (x : Str), (here, x) ∈ E → x ∈ K ++ news here K E
  | [], _, _, h => absurd h List.not_mem_nil
  | (a, b) :: r, K, x, h => by
    unfold news
    split
    · rename_i hc
      rw [show K ++ b :: news here (K ++ [b]) r = (K ++ [b]) ++ news here (K ++ [b]) r by simp]
      rcases List.mem_cons.mp h with e | h
      · injection e with _ e; rw [e]; simp
      · exact news_all here r _ x h
    · rename_i hc
      rcases List.mem_cons.mp h with e | h
      · injection e with e1 e2
        have : x ∈ K := Classical.byContradiction fun z => hc ⟨e1.symm, e2 ▸ z⟩
        exact List.mem_append_left _ this
      · exact news_all here r K x h
theorem news_nodup (here : Str) : ∀ (E : List (Str × Str)) (K : List Str), K.Nodup → (K ++ news here K E).Nodup
  | [], K, h => by simpa [news] using h
  | (a, b) :: r, K, h => by
    unfold news
    split
    · rename_i hc
      rw [show K ++ b :: news here (K ++ [b]) r = (K ++ [b]) ++ news here (K ++ [b]) r by simp]
      exact news_nodup here r _ (List.nodup_append.mpr ⟨h, by simp, fun x hx y hy => by rw [List.mem_singleton.mp hy]; exact fun e => hc.2 (e ▸ hx)⟩)
    · exact news_nodup here r K h
theorem nodup_len {xs ys : List Str} (h : xs.Nodup) (s : ∀ x, x ∈ xs → x ∈ ys) : xs.length ≤ ys.length := by
  classical
  induction xs generalizing ys with
  | nil => exact Nat.zero_le _
  | cons x r ih =>
    obtain ⟨h1, h2⟩ := List.nodup_cons.mp h
    have hx := s x List.mem_cons_self
    have := ih (ys := ys.erase x) h2 fun y hy => (List.mem_erase_of_ne (fun e : y = x => h1 (by rw [← e]; exact hy))).mpr (s y (List.mem_cons_of_mem _ hy))
    rw [List.length_erase_of_mem hx] at this
    have := List.length_pos_of_mem hx
    rw [List.length_cons]
    omega
def envU (q nm : D) (K R : List Str) (o4 o5 o6 : Option D) : PL.Env := [some q, some nm, some (.dict (dk K)), some (.list (sD R)), o4, o5, o6]
theorem small {n : Nat} (h : n ≤ 1000) : n < sizeLine := small1000 h
end W
set_option Elab.async false
set_option linter.all false
set_option maxRecDepth 100000
set_option maxHeartbeats 1000000
/-! MRb: books and pairs as data. -/
namespace W
open PySem PySem.Spec PyProof.Rows L2 PL
@[simp] theorem item_pD0 (p : Str × Str) : dItem (pD p) (.int 0) = .ok (.str p.1) := id rfl
@[simp] theorem item_pD1 (p : Str × Str) : dItem (pD p) (.int 1) = .ok (.str p.2) := id rfl
/-- a book as data -/
def bookD (ws : List Str) (E : List (Str × Str)) (x y : D) : D := .tuple [.tuple (sD ws), .tuple (E.map pD), x, y]
@[simp] theorem book0 (ws : List Str) (E : List (Str × Str)) (x y : D) : dItem (bookD ws E x y) (.int 0) = .ok (.tuple (sD ws)) := id rfl
@[simp] theorem book1 (ws : List Str) (E : List (Str × Str)) (x y : D) : dItem (bookD ws E x y) (.int 1) = .ok (.tuple (E.map pD)) := id rfl
def formT (ws : List Str) (E N O : List (Str × Str)) : D := .tuple [.tuple (sD ws), .tuple (E.map pD), .tuple (N.map pD), .tuple (O.map pD)]
end W
set_option Elab.async false
set_option linter.all false
set_option maxRecDepth 100000
set_option maxHeartbeats 1000000
/-! MA: up_from. -/
namespace W
open PySem PySem.Spec PyProof.Rows L2 PL
theorem up_inner (q nm : D) (here : Str) (N : Nat) (hN : N ≤ 400) : ∀ (E : List (Str × Str)) (K R : List Str), (K ++ news here K E).length ≤ N → (R ++ news here K E).length ≤ N →
    forGo (bTup (bCons (bName 5) (bCons (bName 6) bNil))) lb1_up_from (E.map pD) (envU q nm K R (some (.str here)) none none) = .ok (.nx (envU q nm (K ++ news here K E) (R ++ news here K E) (some (.str here)) none none))
  | [], K, R, _, _ => by simp [news]
  | (a, b) :: r, K, R, h1, h2 => by
    rw [List.map_cons, v_forS]
    have e0 : (bTup (bCons (bName 5) (bCons (bName 6) bNil)) (pD (a, b)) (envU q nm K R (some (.str here)) none none)).calm = .ok (envU q nm K R (some (.str here)) (some (.str a)) (some (.str b))) := rfl
    rw [e0, PL.R.bind_ok]
    have hk : ∀ xs ys : List Str, (xs ++ ys).length ≤ N → xs.length < sizeLine := fun xs ys h => small (by rw [List.length_append] at h; omega)
    by_cases hc : a = here ∧ b ∉ K
    · have en : news here K ((a, b) :: r) = b :: news here (K ++ [b]) r := by rw [news, if_pos hc]
      rw [en] at h1 h2 ⊢
      have e1 : lb1_up_from (envU q nm K R (some (.str here)) (some (.str a)) (some (.str b))) = .ok (.nx (envU q nm (K ++ [b]) (R ++ [b]) (some (.str here)) none none)) := by
        simp [lb1_up_from, envU, hc.1, dTruth, dNotInD, dk_fit, dk_find, hc.2, dk_len, hk _ _ h1, hk _ _ h2, dk_set hc.2]
      rw [e1, PL.R.bind_ok]
      show forGo _ lb1_up_from (r.map pD) _ = _
      rw [up_inner q nm here N hN r (K ++ [b]) (R ++ [b]) (by simpa using h1) (by simpa using h2)]
      simp
    · have en : news here K ((a, b) :: r) = news here K r := by rw [news, if_neg hc]
      rw [en] at h1 h2 ⊢
      have e1 : lb1_up_from (envU q nm K R (some (.str here)) (some (.str a)) (some (.str b))) = .ok (.nx (envU q nm K R (some (.str here)) none none)) := by
        by_cases ha : a = here
        · have hb : b ∈ K := Classical.byContradiction fun z => hc ⟨ha, z⟩
          simp [lb1_up_from, envU, ha, dTruth, dNotInD, dk_fit, dk_find, hb]
        · simp [lb1_up_from, envU, ha, dTruth]
      rw [e1, PL.R.bind_ok]
      exact up_inner q nm here N hN r K R h1 h2
theorem cond_row (R : List Str) {q nm o : D} {t4 t5 t6 : Option D} (K : List Str) : fTru (f2 dNe (fVar 3) (fLst fNil)) (envU q nm K R t4 t5 t6) = .ok (!decide (R = [])) := by
  have := dNe_strs R []
  simp [envU, dTruth, show dNe (.list (sD R)) (.list []) = .ok (.bool (!decide (R = []))) from this]
/-- the loop: what is found, and that it ends -/
theorem up_while {q : D} {E : List (Str × Str)} {name : Str} (hq : itemsOf q = .ok (E.map pD)) (hE : E.length ≤ 200) : ∀ (m : Nat) (K R : List Str),
    R.length + (E.filter fun p => decide (p.2 ∉ K)).length ≤ m → K.Nodup → R.length ≤ K.length + 1 → (∀ x, x ∈ K → Reach E name x) → (∀ x, x ∈ R → x = name ∨ x ∈ K) → (∀ x, x = name ∨ x ∈ K → x ∉ R → ∀ y, (x, y) ∈ E → y ∈ K) →
    ∃ K', whileGo (fTru (f2 dNe (fVar 3) (fLst fNil))) lb2_up_from (m + 1) (envU q (.str name) K R none none none) = .ok (.nx (envU q (.str name) K' [] none none none)) ∧ K'.Nodup ∧ ∀ x, x ∈ K' ↔ Reach E name x
  | m, K, R, hm, nd, hl, h1, h2, h3 => by
    unfold whileGo
    rw [cond_row (o := .none), PL.R.bind_ok]
    rcases List.eq_nil_or_concat R with rfl | ⟨R0, here, e⟩
    · refine ⟨K, ?_, nd, fun x => ⟨h1 x, fun h => ?_⟩⟩
      · simp
      · have cl : ∀ a b, Reach E a b → (a = name ∨ a ∈ K) → b ∈ K := fun a b h => by
          induction h with
          | one h => exact fun ha => h3 _ ha List.not_mem_nil _ h
          | more h _ ih => exact fun ha => ih (.inr (h3 _ ha List.not_mem_nil _ h))
        exact cl _ _ h (.inl rfl)
    · rw [List.concat_eq_append] at e
      subst e
      have subK : ∀ x, x ∈ K → x ∈ E.map (·.2) := fun x hx => by
        obtain ⟨c, hc⟩ := (h1 x hx).last
        exact List.mem_map.mpr ⟨_, hc, rfl⟩
      have nd' := news_nodup here E K nd
      have hhere : here = name ∨ here ∈ K := h2 here (by simp)
      have reach' : ∀ x, x ∈ K ++ news here K E → Reach E name x := fun x hx => by
        rcases List.mem_append.mp hx with hx | hx
        · exact h1 x hx
        · have := (news_sub here E K x hx).1
          rcases hhere with e | e
          · rw [e] at this; exact .one this
          · exact (h1 here e).snoc this
      have lenK : (K ++ news here K E).length ≤ 200 := by
        have := nodup_len nd' (ys := E.map (·.2)) fun x hx => by
          obtain ⟨c, hc⟩ := (reach' x hx).last
          exact List.mem_map.mpr ⟨_, hc, rfl⟩
        rw [List.length_map] at this
        omega
      have lenR : (R0 ++ news here K E).length ≤ 400 := by
        rw [List.length_append] at lenK hl ⊢
        simp at hl
        omega
      have body : lb2_up_from (envU q (.str name) K (R0 ++ [here]) none none none) = .ok (.nx (envU q (.str name) (K ++ news here K E) (R0 ++ news here K E) none none none)) := by
        have inner := up_inner q (.str name) here 400 (by omega) E K R0 (by omega) lenR
        unfold lb2_up_from
        rw [v_sSeq, v_sPop]
        simp only [envU, v_listS, v_list0, PL.R.bind_ok]
        have e1 : (sD (R0 ++ [here]))[(sD (R0 ++ [here])).length - 1]? = some (.str here) := by simp
        have e2 : (sD (R0 ++ [here])).dropLast = sD R0 := by simp
        rw [e1, e2]
        simp only [List.set_cons_succ, List.set_cons_zero, PL.R.bind_ok, v_sSeq, v_sFor, v_iSeq, v_fVar0, hq]
        have inner' : forGo (bTup (bCons (bName 5) (bCons (bName 6) bNil))) lb1_up_from (E.map pD) [some q, some (.str name), some (.dict (dk K)), some (.list (sD R0)), some (.str here), none, none] = _ := inner
        rw [inner']
        simp [envU]
      have meas : (R0 ++ news here K E).length + (E.filter fun p => decide (p.2 ∉ K ++ news here K E)).length + 1 ≤ m := by
        have key : ∀ (E : List (Str × Str)) (K : List Str), (∀ x, x ∈ news here K E → x ∉ K) → (news here K E).length + (E.filter fun p => decide (p.2 ∉ K ++ news here K E)).length ≤ (E.filter fun p => decide (p.2 ∉ K)).length := by
          intro E
          induction E with
          | nil => intro K _; simp [news]
          | cons p r ih =>
            intro K hK
            obtain ⟨a, b⟩ := p
            unfold news
            by_cases hc : a = here ∧ b ∉ K
            · rw [if_pos hc]
              have := ih (K ++ [b]) fun x hx => (news_sub here r _ x hx).2
              rw [show K ++ b :: news here (K ++ [b]) r = (K ++ [b]) ++ news here (K ++ [b]) r by simp]
              rw [List.filter_cons_of_neg (by simp), List.filter_cons_of_pos (by simpa using hc.2), List.length_cons, List.length_cons]
              have le : (r.filter fun p => decide (p.2 ∉ K ++ [b])).length ≤ (r.filter fun p => decide (p.2 ∉ K)).length := by
                rw [← List.countP_eq_length_filter, ← List.countP_eq_length_filter]
                exact List.countP_mono_left fun x _ hx => by simp at hx ⊢; exact hx.1
              omega
            · rw [if_neg hc]
              have := ih K fun x hx => (news_sub here r _ x hx).2
              by_cases hb : b ∈ K
              · rw [List.filter_cons_of_neg (by simp [hb]), List.filter_cons_of_neg (by simp [hb])]
                exact this
              · rw [List.filter_cons_of_pos (p := fun p : Str × Str => decide (p.2 ∉ K)) (by simpa using hb)]
                have : (List.filter (fun p => decide (p.2 ∉ K ++ news here K r)) ((a, b) :: r)).length ≤ (List.filter (fun p => decide (p.2 ∉ K ++ news here K r)) r).length + 1 := by
                  rw [List.filter_cons]; split <;> simp
                rw [List.length_cons]
                omega
        have := key E K fun x hx => (news_sub here E K x hx).2
        have l1 : (R0 ++ [here]).length = R0.length + 1 := by simp
        rw [l1] at hm
        rw [List.length_append]
        omega
      obtain ⟨m', rfl⟩ : ∃ m', m = m' + 1 := ⟨m - 1, by omega⟩
      have dec : (!decide (R0 ++ [here] = [])) = true := by simp
      rw [dec, if_pos rfl, body, PL.R.bind_ok]
      obtain ⟨K', e, r⟩ := up_while hq hE m' (K ++ news here K E) (R0 ++ news here K E) (by omega) nd' (by
          rw [List.length_append, List.length_append]
          rw [List.length_append] at hl
          simp at hl
          omega) reach' (fun x hx => by
          rcases List.mem_append.mp hx with hx | hx
          · exact (h2 x (by simp [hx])).imp id fun h => List.mem_append_left _ h
          · exact .inr (List.mem_append_right _ hx)) (fun x hx hr y hy => by
          by_cases e : x = here
          · subst e; exact news_all x E K y hy
          · have hx' : x = name ∨ x ∈ K := hx.imp id fun h => (List.mem_append.mp h).elim id fun h => absurd (List.mem_append_right _ h) hr
            exact List.mem_append_left _ (h3 x hx' (by
              intro z
              rcases List.mem_append.mp z with z | z
              · exact hr (List.mem_append_left _ z)
              · exact e (List.mem_singleton.mp z)) y hy))
      exact ⟨K', e, r⟩
/-- UP_FROM -/
theorem up_from_is {q : D} {E : List (Str × Str)} (hq : itemsOf q = .ok (E.map pD)) (hE : E.length ≤ 200) (name : Str) : ∃ K : List Str, f_up_from [q, .str name] = .ok (.dict (dk K)) ∧ K.Nodup ∧ ∀ x, x ∈ K ↔ Reach E name x := by
  obtain ⟨K, e, nd, hK⟩ := up_while (name := name) hq hE (1 + E.length) [] [name] (by simp; exact List.length_filter_le _ _) List.nodup_nil (by simp) (fun x h => absurd h List.not_mem_nil) (fun x h => .inl (List.mem_singleton.mp h)) fun x h hr => by
    rcases h with h | h
    · exact absurd (by rw [h]; simp) hr
    · exact absurd h List.not_mem_nil
  refine ⟨K, ?_, nd, hK⟩
  unfold f_up_from fnOut g_up_from
  have st : startE 7 [q, .str name] = [some q, some (.str name), none, none, none, none, none] := rfl
  have w := sWhile_eq e (by simp)
  rw [st]
  simp only [v_sSeq, v_sSet, v_fC, PL.R.bind_ok, List.set_cons_succ, List.set_cons_zero, v_fLst, v_fCons, v_fVarS, v_fVar0, v_fNil]
  have w' : sWhile (fTru (f2 dNe (fVar 3) (fLst fNil))) lb2_up_from [some q, some (.str name), some (.dict []), some (.list [.str name]), none, none, none] = _ := w
  rw [w']
  simp [envU]
end W
set_option Elab.async false
set_option linter.all false
set_option maxRecDepth 100000
set_option maxHeartbeats 1000000
/-! MB: the law's own way upwards; above, below, tops. -/
namespace W
open PySem PySem.Spec PyProof.Rows L2 PL
open Classical in
/-- all that is above -/
noncomputable def upsOf (E : List (Str × Str)) (name : Str) : List Str := sortS (uniqS ((E.map (·.2)).filter fun x => decide (Reach E name x)))
theorem mem_ups {E : List (Str × Str)} {name x : Str} : x ∈ upsOf E name ↔ Reach E name x := by
  classical
  unfold upsOf
  rw [sortS_mem, mem_uniqS, List.mem_filter, decide_eq_true_eq]
  exact ⟨fun h => h.2, fun h => ⟨by obtain ⟨c, hc⟩ := h.last; exact List.mem_map.mpr ⟨_, hc, rfl⟩, h⟩⟩
theorem nodup_sortS {xs : List Str} (h : xs.Nodup) : (sortS xs).Nodup := (sortS_perm xs).nodup_iff.mpr h
theorem nodup_ups (E : List (Str × Str)) (name : Str) : (upsOf E name).Nodup := nodup_sortS (nodup_uniqS _)
theorem ups_is {E : List (Str × Str)} {name : Str} {xs : List Str} (nd : xs.Nodup) (h : ∀ x, x ∈ xs ↔ Reach E name x) : sortS xs = upsOf E name := by
  unfold upsOf
  refine sortS_eq nd (nodup_uniqS _) fun x => ?_
  have := mem_ups (E := E) (name := name) (x := x)
  unfold upsOf at this
  rw [sortS_mem] at this
  rw [h, this]
theorem ups_len (E : List (Str × Str)) (name : Str) : (upsOf E name).length ≤ E.length := by
  have := nodup_len (nodup_ups E name) (ys := E.map (·.2)) fun x hx => by
    obtain ⟨c, hc⟩ := (mem_ups.mp hx).last
    exact List.mem_map.mpr ⟨_, hc, rfl⟩
  rwa [List.length_map] at this
theorem ups_congr {E E' : List (Str × Str)} (h : ∀ p, p ∈ E ↔ p ∈ E') (name : Str) : upsOf E name = upsOf E' name := by
  refine sortS_eq (nodup_uniqS _) (nodup_uniqS _) fun x => ?_
  have h1 := mem_ups (E := E) (name := name) (x := x)
  have h2 := mem_ups (E := E') (name := name) (x := x)
  unfold upsOf at h1 h2
  rw [sortS_mem] at h1 h2
  rw [h1, h2]
  exact ⟨Reach.mono fun p => (h p).mp, Reach.mono fun p => (h p).mpr⟩

/-! ### the loop -/
def moreOf (E : List (Str × Str)) (here : Str) (F : List Str) : List Str := ((E.filter fun p => decide (p.1 = here)).map (·.2)).filter fun x => !decide (x ∈ F)
theorem mem_more {E : List (Str × Str)} {here x : Str} {F : List Str} : x ∈ moreOf E here F ↔ (here, x) ∈ E ∧ x ∉ F := by
  unfold moreOf
  simp only [List.mem_filter, List.mem_map, decide_eq_true_eq, Bool.not_eq_true', decide_eq_false_iff_not]
  constructor
  · rintro ⟨⟨⟨a, b⟩, ⟨h1, h2⟩, rfl⟩, h3⟩
    simp only at h2 h3 ⊢
    subst h2
    exact ⟨h1, h3⟩
  · rintro ⟨h1, h2⟩
    exact ⟨⟨(here, x), ⟨h1, rfl⟩, rfl⟩, h2⟩
theorem more_len (E : List (Str × Str)) (here : Str) (F : List Str) : (moreOf E here F).length + (E.filter fun p => !decide (p.2 ∈ F ++ moreOf E here F)).length ≤ (E.filter fun p => !decide (p.2 ∈ F)).length := by
  have key : ∀ (M : List Str) (E : List (Str × Str)), (∀ p, p ∈ E → p.1 = here → p.2 ∉ F → p.2 ∈ M) → (((E.filter fun p => decide (p.1 = here)).map (·.2)).filter fun x => !decide (x ∈ F)).length + (E.filter fun p => !decide (p.2 ∈ F ++ M)).length ≤ (E.filter fun p => !decide (p.2 ∈ F)).length := by
    intro M E
    induction E with
    | nil => intro _; simp
    | cons p r ih =>
      intro h
      obtain ⟨a, b⟩ := p
      have ih := ih fun p hp => h p (List.mem_cons_of_mem _ hp)
      by_cases ha : a = here
      · by_cases hb : b ∈ F
        · rw [List.filter_cons_of_pos (by simpa using ha), List.map_cons, List.filter_cons_of_neg (by simp [hb]), List.filter_cons_of_neg (by simp [hb]), List.filter_cons_of_neg (by simp [hb])]
          exact ih
        · have hm := h (a, b) List.mem_cons_self ha hb
          rw [List.filter_cons_of_pos (by simpa using ha), List.map_cons, List.filter_cons_of_pos (by simp [hb]), List.filter_cons_of_neg (by simp [show b ∈ M from hm]), List.filter_cons_of_pos (p := fun p : Str × Str => !decide (p.2 ∈ F)) (by simp [hb]), List.length_cons, List.length_cons]
          omega
      · rw [List.filter_cons_of_neg (by simpa using ha)]
        by_cases hb : b ∈ F
        · rw [List.filter_cons_of_neg (p := fun p : Str × Str => !decide (p.2 ∈ F ++ M)) (by simp [hb]), List.filter_cons_of_neg (by simp [hb])]
          exact ih
        · rw [List.filter_cons_of_pos (p := fun p : Str × Str => !decide (p.2 ∈ F)) (by simp [hb]), List.length_cons]
          have : (List.filter (fun p : Str × Str => !decide (p.2 ∈ F ++ M)) ((a, b) :: r)).length ≤ (List.filter (fun p => !decide (p.2 ∈ F ++ M)) r).length + 1 := by
            rw [List.filter_cons]; split <;> simp
          omega
  exact key _ E fun p hp h1 h2 => mem_more.mpr ⟨by rw [← h1]; exact hp, h2⟩
def envL (q nm : D) (F R : List Str) (o4 o5 : Option D) : PL.Env := [some q, some nm, some (.list (sD F)), some (.list (sD R)), o4, o5, none, none]
theorem condL (R : List Str) {q nm : D} {t4 t5 : Option D} (F : List Str) : fTru (f2 dNe (fVar 3) (fLst fNil)) (envL q nm F R t4 t5) = .ok (!decide (R = [])) := by
  simp [envL, dTruth, show dNe (.list (sD R)) (.list []) = .ok (.bool (!decide (R = []))) from dNe_strs R []]
theorem up_body {q : D} {E : List (Str × Str)} (hq : itemsOf q = .ok (E.map pD)) (nm : D) (F R : List Str) (here : Str) (h1 : (F ++ moreOf E here F).length ≤ 900) (h2 : (R ++ moreOf E here F).length ≤ 900) :
    lb1__law_up (envL q nm F (R ++ [here]) none none) = .ok (.nx (envL q nm (F ++ moreOf E here F) (R ++ moreOf E here F) none none)) := by
  unfold lb1__law_up
  rw [v_sSeq, v_sPop]
  simp only [envL, v_listS, v_list0, PL.R.bind_ok]
  have e1 : (sD (R ++ [here]))[(sD (R ++ [here])).length - 1]? = some (.str here) := by simp
  have e2 : (sD (R ++ [here])).dropLast = sD R := by simp
  rw [e1, e2]
  simp only [List.set_cons_succ, List.set_cons_zero, PL.R.bind_ok, v_sSeq, v_sSet, v_fLc, v_iSeq, v_fVar0, hq, v_wipe0, v_wipeS]
  rw [lc_eq (τ1 := fun p => [some q, some nm, some (.list (sD F)), some (.list (sD R)), some (.str here), none, some (pD p), none]) pD (fun p => decide (p.1 = here)) (fun p => .str p.2) E fun p _ => ⟨by simp, by simp [ct1__law_up, dTruth], fun _ => by simp [ce1__law_up]⟩]
  simp only [PL.R.calm_ok, PL.R.bind_ok, v_fVarS, v_fVar0, List.set_cons_succ, List.set_cons_zero, v_sSeq, v_sSet, v_fLc, v_iSeq, v_wipe0, v_wipeS, itemsOf]
  have e3 : (E.filter fun p => decide (p.1 = here)).map (fun p => PyData.str p.2) = ((E.filter fun p => decide (p.1 = here)).map (·.2)).map PyData.str := by rw [List.map_map]; rfl
  rw [e3]
  rw [lc_eq (τ1 := fun x => [some q, some nm, some (.list (sD F)), some (.list (sD R)), some (.str here), some (.list (sD ((E.filter fun p => decide (p.1 = here)).map (·.2)))), none, some (.str x)]) PyData.str (fun x => !decide (x ∈ F)) (fun x => .str x) _ fun x _ => ⟨by simp, by simp [ct2__law_up, dTruth, dNotIn_strs], fun _ => by simp [ce2__law_up]⟩]
  have e4 : (((E.filter fun p => decide (p.1 = here)).map (·.2)).filter fun x => !decide (x ∈ F)).map (fun x => PyData.str x) = sD (moreOf E here F) := rfl
  rw [e4]
  have z1 : F.length + (moreOf E here F).length ≤ sizeLine := by
    have := small1000 (n := 900) (by omega)
    rw [List.length_append] at h1; omega
  have z2 : R.length + (moreOf E here F).length ≤ sizeLine := by
    have := small1000 (n := 900) (by omega)
    rw [List.length_append] at h2; omega
  simp [dAdd, dAddL, z1, z2]
theorem lup_while {q : D} {E : List (Str × Str)} {name : Str} (hq : itemsOf q = .ok (E.map pD)) (hE : E.length ≤ 400) : ∀ (m : Nat) (F R : List Str),
    R.length + (E.filter fun p => !decide (p.2 ∈ F)).length ≤ m → F.length + (E.filter fun p => !decide (p.2 ∈ F)).length ≤ E.length → R.length ≤ F.length + 1 → (∀ x, x ∈ F → Reach E name x) → (∀ x, x ∈ R → x = name ∨ x ∈ F) → (∀ x, x = name ∨ x ∈ F → x ∉ R → ∀ y, (x, y) ∈ E → y ∈ F) →
    ∃ F', whileGo (fTru (f2 dNe (fVar 3) (fLst fNil))) lb1__law_up (m + 1) (envL q (.str name) F R none none) = .ok (.nx (envL q (.str name) F' [] none none)) ∧ F'.length ≤ E.length ∧ ∀ x, x ∈ F' ↔ Reach E name x
  | m, F, R, hm, hf, hl, h1, h2, h3 => by
    unfold whileGo
    rw [condL, PL.R.bind_ok]
    rcases List.eq_nil_or_concat R with rfl | ⟨R0, here, e⟩
    · refine ⟨F, ?_, by omega, fun x => ⟨h1 x, fun h => ?_⟩⟩
      · simp
      · have cl : ∀ a b, Reach E a b → (a = name ∨ a ∈ F) → b ∈ F := fun a b h => by
          induction h with
          | one h => exact fun ha => h3 _ ha List.not_mem_nil _ h
          | more h _ ih => exact fun ha => ih (.inr (h3 _ ha List.not_mem_nil _ h))
        exact cl _ _ h (.inl rfl)
    · rw [List.concat_eq_append] at e
      subst e
      have hhere : here = name ∨ here ∈ F := h2 here (by simp)
      have ml := more_len E here F
      have l1 : (R0 ++ [here]).length = R0.length + 1 := by simp
      rw [l1] at hm hl
      have body := up_body hq (.str name) F R0 here (by rw [List.length_append]; omega) (by rw [List.length_append]; omega)
      obtain ⟨m', rfl⟩ : ∃ m', m = m' + 1 := ⟨m - 1, by omega⟩
      have dec : (!decide (R0 ++ [here] = [])) = true := by simp
      rw [dec, if_pos rfl, body, PL.R.bind_ok]
      exact lup_while hq hE m' (F ++ moreOf E here F) (R0 ++ moreOf E here F) (by rw [List.length_append]; omega) (by rw [List.length_append]; omega) (by rw [List.length_append, List.length_append]; omega)
        (fun x hx => by
          rcases List.mem_append.mp hx with hx | hx
          · exact h1 x hx
          · have := (mem_more.mp hx).1
            rcases hhere with e | e
            · rw [e] at this; exact .one this
            · exact (h1 here e).snoc this)
        (fun x hx => by
          rcases List.mem_append.mp hx with hx | hx
          · exact (h2 x (by simp [hx])).imp id fun h => List.mem_append_left _ h
          · exact .inr (List.mem_append_right _ hx))
        (fun x hx hr y hy => by
          by_cases e : x = here
          · subst e
            by_cases hyF : y ∈ F
            · exact List.mem_append_left _ hyF
            · exact List.mem_append_right _ (mem_more.mpr ⟨hy, hyF⟩)
          · have hx' : x = name ∨ x ∈ F := hx.imp id fun h => (List.mem_append.mp h).elim id fun h => absurd (List.mem_append_right _ h) hr
            exact List.mem_append_left _ (h3 x hx' (by
              intro z
              rcases List.mem_append.mp z with z | z
              · exact hr (List.mem_append_left _ z)
              · exact e (List.mem_singleton.mp z)) y hy))
theorem law_up_is {q : D} {E : List (Str × Str)} (hq : itemsOf q = .ok (E.map pD)) (hE : E.length < 64) (name : Str) : f__law_up [q, .str name] = .ok (.list (sD (upsOf E name))) := by
  obtain ⟨F, e, lF, hF⟩ := lup_while (name := name) hq (by omega) (1 + E.length) [] [name] (by simp; exact List.length_filter_le _ _) (by simp; exact List.length_filter_le _ _) (by simp) (fun x h => absurd h List.not_mem_nil) (fun x h => .inl (List.mem_singleton.mp h)) fun x h hr => by
    rcases h with h | h
    · exact absurd (by rw [h]; simp) hr
    · exact absurd h List.not_mem_nil
  unfold f__law_up fnOut g__law_up
  have st : startE 8 [q, .str name] = [some q, some (.str name), none, none, none, none, none, none] := rfl
  have w := sWhile_eq e (by simp)
  rw [st]
  simp only [v_sSeq, v_sSet, v_fC, PL.R.bind_ok, List.set_cons_succ, List.set_cons_zero, v_fLst, v_fCons, v_fVarS, v_fVar0, v_fNil]
  have w' : sWhile (fTru (f2 dNe (fVar 3) (fLst fNil))) lb1__law_up [some q, some (.str name), some (.list []), some (.list [.str name]), none, none, none, none] = _ := w
  rw [w']
  have e5 : sortS (uniqS F) = upsOf E name := ups_is (nodup_uniqS F) fun x => by rw [mem_uniqS, hF]
  simp only [PL.R.bind_ok, v_sRet, v_f1, envL, v_fVarS, v_fVar0]
  rw [dSortedSet_strs (by omega), e5]
  rfl

/-! ### above, below, tops -/
theorem keys_dk (K : List Str) : dKeys (.dict (dk K)) = .ok (.list (sD K)) := by
  unfold dKeys
  dsimp only
  rw [dk_mark, if_neg (by decide)]
  simp [dk]
theorem nil_dk (K : List Str) : dNil (.dict (dk K)) = .ok (.bool (decide (K = []))) := by
  unfold dNil
  dsimp only
  rw [dk_mark, if_neg (by decide)]
  cases K <;> rfl
end W
set_option Elab.async false
set_option linter.all false
set_option maxRecDepth 100000
set_option maxHeartbeats 1000000
/-! MBa: above. -/
namespace W
open PySem PySem.Spec PyProof.Rows L2 PL
theorem above_is (ws : List Str) {E : List (Str × Str)} (x y : D) (hE : E.length ≤ 200) (name : Str) : f_above [bookD ws E x y, .str name] = .ok (.list (sD (upsOf E name))) := by
  obtain ⟨K, e, nd, hK⟩ := up_from_is (q := .tuple (E.map pD)) rfl hE name
  unfold f_above fnOut g_above
  have st : startE 2 [bookD ws E x y, .str name] = [some (bookD ws E x y), some (.str name)] := rfl
  rw [st]
  simp [e, keys_dk, dSorted_strs, ups_is nd hK]
end W
set_option Elab.async false
set_option linter.all false
set_option maxRecDepth 100000
set_option maxHeartbeats 1000000
/-! MC: the law's draws. -/
namespace W
open PySem PySem.Spec PyProof.Rows L2 PL
abbrev iD (ns : List Int) : List D := ns.map PyData.int
theorem cell_is (ns : List Int) (k : Nat) : ∃ c : Int, f__law_cell [.list (iD ns), .int k] = .ok (.int c) := by
  unfold f__law_cell fnOut g__law_cell
  have st : startE 2 [.list (iD ns), .int k] = [some (.list (iD ns)), some (.int k)] := rfl
  rw [st]
  by_cases h1 : k < ns.length
  · have e := item_ints (ns := ns) (i := k) (by omega) (by omega)
    obtain ⟨c, hc⟩ : ∃ c, c = ns[((k : Int)).toNat]'(by omega) := ⟨_, rfl⟩
    rw [← hc] at e
    refine ⟨c, ?_⟩
    simp [e, h1]
  · by_cases h2 : ns.length = 0
    · refine ⟨7919 * k + 101, ?_⟩
      have e2 : dMul (.int 7919) (.int k) = .ok (.int (7919 * k)) := dMul_l _ (inMul_of (by omega) (by omega))
      have h3 : (ns.length : Int) = 0 := by omega
      simp only [v_sSeq, v_sIf, v_fTru, v_f2, v_f1, v_fVarS, v_fVar0, PL.R.bind_ok, dLen_list, List.length_map, dLt_int, dTruth_bool, v_sRet, v_fC, dEq_int, v_sNext, decide_eq_false (show ¬ (k : Int) < (ns.length : Int) by omega), Bool.false_eq_true, if_false, decide_eq_true h3, if_true, e2, dAdd_int]
    · have hm : (0 : Int) < ns.length := by omega
      have e := item_ints (ns := ns) (i := (k : Int) % ns.length) (Int.emod_nonneg _ (by omega)) (Int.emod_lt_of_pos _ hm)
      have e2 : dMul (.int 7919) (.int k) = .ok (.int (7919 * k)) := dMul_l _ (inMul_of (by omega) (by omega))
      obtain ⟨c, hc⟩ : ∃ c, c = ns[((k : Int) % ns.length).toNat]'(by have := Int.emod_lt_of_pos (k : Int) hm; have := Int.emod_nonneg (k : Int) (show (ns.length : Int) ≠ 0 by omega); omega) := ⟨_, rfl⟩
      rw [← hc] at e
      refine ⟨c % 1000003 + 7919 * k, ?_⟩
      have h3 : ¬ (ns.length : Int) = 0 := by omega
      simp only [v_sSeq, v_sIf, v_fTru, v_f2, v_f1, v_fVarS, v_fVar0, PL.R.bind_ok, dLen_list, List.length_map, dLt_int, dTruth_bool, v_sRet, v_fC, dEq_int, v_sNext, decide_eq_false (show ¬ (k : Int) < (ns.length : Int) by omega), Bool.false_eq_true, if_false, decide_eq_false h3,
        dMod_int hm, e, dMod_int (show (0 : Int) < 1000003 by decide), e2, dAdd_int]
def primes : List Int := [2147483647, 2147483629, 2147483587, 2147483579, 2147483563, 2147483549, 2147483543, 2147483497]
theorem primes_at {i : Int} (h0 : 0 ≤ i) (h : i < 8) : ∃ p, dItem (.tuple (iD primes)) (.int i) = .ok (.int p) ∧ 0 < p ∧ p < 2 ^ 31 := by
  have hl : i < ((iD primes).length : Int) := h
  have h8 : i.toNat < 8 := by omega
  suffices key : ∀ (n : Nat) (h : n < 8), ∃ p, dItem (.tuple (iD primes)) (.int (n : Nat)) = .ok (.int p) ∧ 0 < p ∧ p < 2 ^ 31 by
    have := key i.toNat h8
    rwa [Int.toNat_of_nonneg h0] at this
  intro n h8
  match n, h8 with
  | 0, _ => exact ⟨2147483647, rfl, by omega, by omega⟩
  | 1, _ => exact ⟨2147483629, rfl, by omega, by omega⟩
  | 2, _ => exact ⟨2147483587, rfl, by omega, by omega⟩
  | 3, _ => exact ⟨2147483579, rfl, by omega, by omega⟩
  | 4, _ => exact ⟨2147483563, rfl, by omega, by omega⟩
  | 5, _ => exact ⟨2147483549, rfl, by omega, by omega⟩
  | 6, _ => exact ⟨2147483543, rfl, by omega, by omega⟩
  | 7, _ => exact ⟨2147483497, rfl, by omega, by omega⟩
def envD (s k m b : D) (c rest : Int) (row : List Int) : PL.Env := [some s, some k, some m, some b, some (.tuple (iD primes)), some (.int c), some (.int rest), some (.list (iD row)), none, none]
theorem draw_body (s m : D) (k : Nat) (hk : k ≤ 1000000) (base : Int) (hb : 0 < base) (hb2 : base < 1073741824) (c rest : Int) (row : List Int) (hr : row.length ≤ 900) (j : Nat) (hj : j ≤ 100000) :
    ∃ d r, lb1__law_draws ((envD s (.int k) m (.int base) c rest row).set 8 (some (.int (0 + (j : Nat))))) = .ok (.nx (envD s (.int k) m (.int base) c r (row ++ [d]))) ∧ 0 ≤ d ∧ d < base := by
  obtain ⟨p1, e1, p1a, p1b⟩ := primes_at (i := (j : Int) % 8) (by omega) (by omega)
  obtain ⟨p2, e2, p2a, p2b⟩ := primes_at (i := (3 * (j : Int) + k) % 8) (by omega) (by omega)
  obtain ⟨p3, e3, p3a, p3b⟩ := primes_at (i := ((j : Int) + 5) % 8) (by omega) (by omega)
  have q1 : ∀ x : Int, 0 ≤ x % p1 ∧ x % p1 < 2 ^ 31 := fun x => ⟨Int.emod_nonneg _ (by omega), Int.lt_trans (Int.emod_lt_of_pos _ p1a) p1b⟩
  have q2 : ∀ x : Int, 0 ≤ x % p2 ∧ x % p2 < 2 ^ 31 := fun x => ⟨Int.emod_nonneg _ (by omega), Int.lt_trans (Int.emod_lt_of_pos _ p2a) p2b⟩
  have m1 : ∀ x y : Int, dMul (.int (x % p1)) (.int y) = .ok (.int (x % p1 * y)) := fun x y => dMul_l _ (inMul_of (by have := q1 x; omega) (by have := q1 x; omega))
  have m2 : ∀ x y : Int, dMul (.int (x % p2)) (.int y) = .ok (.int (x % p2 * y)) := fun x y => dMul_l _ (inMul_of (by have := q2 x; omega) (by have := q2 x; omega))
  have m2r : ∀ x y : Int, dMul (.int y) (.int (x % p2)) = .ok (.int (y * (x % p2))) := fun x y => dMul_r _ (inMul_of (by have := q2 x; omega) (by have := q2 x; omega))
  have mc : ∀ (a : Int) (y : Int), -(2 ^ 64) < a → a < 2 ^ 64 → dMul (.int a) (.int y) = .ok (.int (a * y)) := fun a y h1 h2 => dMul_l _ (inMul_of h1 h2)
  have hz : (0 : Int) + (j : Nat) = (j : Int) := by omega
  have small : row.length < sizeLine := small1000 (by omega)
  rw [hz]
  have fin : ∀ x r : Int, (PL.R.ok (Out.nx [some s, some (.int k), some m, some (.int base), some (.tuple (iD primes)), some (.int c), some (.int r), some (.list (iD row ++ [.int (x % base)])), none, none])) = .ok (.nx (envD s (.int k) m (.int base) c r (row ++ [x % base]))) := fun x r => by
    have e : iD (row ++ [x % base]) = iD row ++ [.int (x % base)] := List.map_append ..
    unfold envD; rw [e]
  have tail : ∀ x : Int, sSeq (sApp 7 (f2 dMod (fVar 9) (fVar 3))) (sSeq (sSet 6 (f2 dFdiv (fVar 6) (fVar 3))) (sForget [9, 8])) [some s, some (.int k), some m, some (.int base), some (.tuple (iD primes)), some (.int c), some (.int rest), some (.list (iD row)), some (.int j), some (.int x)] =
      .ok (.nx (envD s (.int k) m (.int base) c (rest / base) (row ++ [x % base]))) := fun x => by
    refine st_app (xs := iD row) (d := .int (x % base)) rfl (by simp only [v_f2, v_fVarS, v_fVar0, PL.R.bind_ok, dMod_int hb]) (by rw [List.length_map]; exact small) ?_
    refine st_set (d := .int (rest / base)) (by simp only [List.set_cons_succ, List.set_cons_zero, v_f2, v_fVarS, v_fVar0, PL.R.bind_ok, dFdiv_int hb hb2]) ?_
    exact fin x (rest / base)
  suffices go : ∃ z : Int, lb1__law_draws ((envD s (.int k) m (.int base) c rest row).set 8 (some (.int j))) = .ok (.nx (envD s (.int k) m (.int base) c (rest / base) (row ++ [(if (0 : Int) < rest then rest else z) % base]))) by
    obtain ⟨z, e⟩ := go
    exact ⟨_, _, e, Int.emod_nonneg _ (by omega), Int.emod_lt_of_pos _ hb⟩
  refine ⟨((c % p1 * (48271 + 2 * (j : Int) * j) + 7919 * ((j : Int) + 1) * ((j : Int) + 1) + 104729 * k) % p2 * ((c % p1 * (48271 + 2 * (j : Int) * j) + 7919 * ((j : Int) + 1) * ((j : Int) + 1) + 104729 * k) % p2) * ((c % p1 * (48271 + 2 * (j : Int) * j) + 7919 * ((j : Int) + 1) * ((j : Int) + 1) + 104729 * k) % p2)) % p3, ?_⟩
  unfold lb1__law_draws
  · have env0 : (envD s (.int k) m (.int base) c rest row).set 8 (some (.int j)) = [some s, some (.int k), some m, some (.int base), some (.tuple (iD primes)), some (.int c), some (.int rest), some (.list (iD row)), some (.int j), none] := rfl
    rw [env0]
    refine st_set (d := .int (c % p1 * (48271 + 2 * (j : Int) * j))) ?_ ?_
    · simp only [v_f2, v_fVarS, v_fVar0, v_fC, PL.R.bind_ok, dMod_int (show (0 : Int) < 8 by decide), e1, dMod_int p1a, m1, mc 2 _ (by omega) (by omega), mc (2 * (j : Int)) _ (by omega) (by omega), dAdd_int]
    simp only [List.set_cons_succ, List.set_cons_zero]
    refine st_set (d := .int (c % p1 * (48271 + 2 * (j : Int) * j) + 7919 * ((j : Int) + 1) * ((j : Int) + 1) + 104729 * k)) ?_ ?_
    · simp only [v_f2, v_fVarS, v_fVar0, v_fC, PL.R.bind_ok, dAdd_int, mc 7919 _ (by omega) (by omega), mc (7919 * ((j : Int) + 1)) _ (by omega) (by omega), mc 104729 _ (by omega) (by omega)]
    generalize c % p1 * (48271 + 2 * (j : Int) * j) + 7919 * ((j : Int) + 1) * ((j : Int) + 1) + 104729 * k = y
    simp only [List.set_cons_succ, List.set_cons_zero]
    refine st_set (d := .int (y % p2)) ?_ ?_
    · simp only [v_f2, v_fVarS, v_fVar0, v_fC, PL.R.bind_ok, dAdd_int, mc 3 _ (by omega) (by omega), dMod_int (show (0 : Int) < 8 by decide), e2, dMod_int p2a]
    simp only [List.set_cons_succ, List.set_cons_zero]
    refine st_set (d := .int (y % p2 * (y % p2) * (y % p2) % p3)) ?_ ?_
    · simp only [v_f2, v_fVarS, v_fVar0, v_fC, PL.R.bind_ok, dAdd_int, m2, m2r, dMod_int (show (0 : Int) < 8 by decide), e3, dMod_int p3a]
    generalize y % p2 * (y % p2) * (y % p2) % p3 = z
    simp only [List.set_cons_succ, List.set_cons_zero]
    by_cases hp : (0 : Int) < rest
    · refine st_ifT (by simp only [v_fTru, v_f2, v_fVarS, v_fVar0, v_fC, PL.R.bind_ok, dGt_int, dTruth_bool, decide_eq_true hp]) ?_
      refine st_set (d := .int rest) (by simp only [v_fVarS, v_fVar0]) ?_
      simp only [List.set_cons_succ, List.set_cons_zero]
      refine (tail rest).trans ?_
      rw [show (if (0 : Int) < rest then rest else z) = rest from if_pos hp]
    · refine st_ifF (by simp only [v_fTru, v_f2, v_fVarS, v_fVar0, v_fC, PL.R.bind_ok, dGt_int, dTruth_bool, decide_eq_false hp]) ?_
      refine st_next ?_
      refine (tail z).trans ?_
      rw [show (if (0 : Int) < rest then rest else z) = z from if_neg hp]
theorem draw_loop (s m : D) (k : Nat) (hk : k ≤ 1000000) (base : Int) (hb : 0 < base) (hb2 : base < 1073741824) (c : Int) : ∀ (js : List Nat) (rest : Int) (row : List Int), (∀ j ∈ js, j ≤ 100000) → row.length + js.length ≤ 900 → (∀ d ∈ row, 0 ≤ d ∧ d < base) →
    ∃ r row', forGo (bName 8) lb1__law_draws (js.map fun j => .int (0 + (j : Nat))) (envD s (.int k) m (.int base) c rest row) = .ok (.nx (envD s (.int k) m (.int base) c r row')) ∧ row'.length = row.length + js.length ∧ ∀ d ∈ row', 0 ≤ d ∧ d < base
  | [], rest, row, _, _, h => ⟨rest, row, rfl, rfl, h⟩
  | j :: js, rest, row, h1, h2, h3 => by
    rw [List.length_cons] at h2
    obtain ⟨d, r, e, d1, d2⟩ := draw_body s m k hk base hb hb2 c rest row (by omega) j (h1 j List.mem_cons_self)
    rw [List.map_cons, v_forS, v_bName, PL.R.calm_ok, PL.R.bind_ok, e, PL.R.bind_ok]
    obtain ⟨r', row', e', l', b'⟩ := draw_loop s m k hk base hb hb2 c js r (row ++ [d]) (fun j hj => h1 j (List.mem_cons_of_mem _ hj)) (by rw [List.length_append, List.length_singleton]; omega) fun x hx => by
      rcases List.mem_append.mp hx with hx | hx
      · exact h3 x hx
      · rw [List.mem_singleton.mp hx]; exact ⟨d1, d2⟩
    exact ⟨r', row', e', by rw [l', List.length_append, List.length_singleton, List.length_cons]; omega, b'⟩
theorem draws_is (ns : List Int) (k : Nat) (hk : k ≤ 1000000) (many : Nat) (hm : many ≤ 800) (base : Int) (hb : 0 < base) (hb2 : base < 1073741824) :
    ∃ ds : List Int, f__law_draws [.list (iD ns), .int k, .int many, .int base] = .ok (.list (iD ds)) ∧ ds.length = many ∧ ∀ d ∈ ds, 0 ≤ d ∧ d < base := by
  obtain ⟨c, ec⟩ := cell_is ns k
  unfold f__law_draws fnOut g__law_draws
  have st : startE 10 [.list (iD ns), .int k, .int many, .int base] = [some (.list (iD ns)), some (.int k), some (.int many), some (.int base), none, none, none, none, none, none] := rfl
  have pw : dPow (.int 10) (.int 18) = .ok (.int (10 ^ 18)) := rfl
  rw [st]
  simp only [v_sSeq, v_sSet, v_fTup, v_fCons, v_fNil, v_fC, PL.R.bind_ok, List.set_cons_succ, List.set_cons_zero, v_fCall, v_fVar0, v_fVarS, ec, v_sIf, v_fTru, v_f2, pw, dGe_int, dTruth_bool]
  have fin : ∀ rest : Int, ∃ ds : List Int, ((sFor (iRange (fVar 2)) (bName 8) lb1__law_draws (envD (.list (iD ns)) (.int k) (.int many) (.int base) c rest [])).bind fun o => match o with | .nx τ' => sRetL 7 τ' | .rt d => .ok (.rt d)) = .ok (.rt (.list (iD ds))) ∧ ds.length = many ∧ ∀ d ∈ ds, 0 ≤ d ∧ d < base := fun rest => by
    obtain ⟨r, row, e, l, b⟩ := draw_loop (.list (iD ns)) (.int many) k hk base hb hb2 c (List.range many) rest [] (fun j hj => by have := List.mem_range.mp hj; omega) (by simp; omega) (fun d h => absurd h List.not_mem_nil)
    refine ⟨row, ?_, by simpa using l, b⟩
    rw [v_sFor, v_iRange]
    have e0 : fVar 2 (envD (.list (iD ns)) (.int k) (.int many) (.int base) c rest []) = .ok (.int many) := rfl
    rw [e0, PL.R.bind_ok, dRange_nat many (by omega), PL.R.bind_ok]
    show ((forGo (bName 8) lb1__law_draws ((List.range many).map fun j => .int (0 + (j : Nat))) _).bind _) = _
    rw [e]
    rfl
  by_cases hc : c < 10 ^ 18
  · rw [decide_eq_true hc]
    simp only [Bool.not_true, Bool.false_eq_true, if_false, v_sNext, PL.R.bind_ok, v_sSeq, v_sSet, v_fLst, v_fNil, List.set_cons_succ, List.set_cons_zero]
    obtain ⟨ds, e, r⟩ := fin 0
    refine ⟨ds, ?_, r⟩
    have e' : ((sFor (iRange (fVar 2)) (bName 8) lb1__law_draws [some (.list (iD ns)), some (.int k), some (.int many), some (.int base), some (.tuple (iD primes)), some (.int c), some (.int 0), some (.list []), none, none]).bind fun o => match o with | .nx τ' => sRetL 7 τ' | .rt d => .ok (.rt d)) = .ok (.rt (.list (iD ds))) := e
    exact congrArg (fun z => PL.R.bind z fun o => match o with | .nx _ => .ok .none | .rt d => .ok d) e'
  · rw [decide_eq_false hc]
    simp only [Bool.not_false, if_true, v_sSet, v_fVarS, v_fVar0, PL.R.bind_ok, v_sSeq, v_fLst, v_fNil, List.set_cons_succ, List.set_cons_zero]
    obtain ⟨ds, e, r⟩ := fin c
    refine ⟨ds, ?_, r⟩
    have e' : ((sFor (iRange (fVar 2)) (bName 8) lb1__law_draws [some (.list (iD ns)), some (.int k), some (.int many), some (.int base), some (.tuple (iD primes)), some (.int c), some (.int c), some (.list []), none, none]).bind fun o => match o with | .nx τ' => sRetL 7 τ' | .rt d => .ok (.rt d)) = .ok (.rt (.list (iD ds))) := e
    exact congrArg (fun z => PL.R.bind z fun o => match o with | .nx _ => .ok .none | .rt d => .ok d) e'
/-! ### mixed -/
end W
set_option Elab.async false
set_option linter.all false
set_option maxRecDepth 100000
set_option maxHeartbeats 1000000
/-! MCm: _law_mixed. -/
namespace W
open PySem PySem.Spec PyProof.Rows L2 PL
theorem mixed_go (sm : D) (ds : List Int) (hd : 0 < ds.length) : ∀ (js : List Nat) (left : List D), js.length ≤ left.length → left.length < 2 ^ 60 → (∀ d ∈ ds, 0 ≤ d) →
    ∃ ys rest, popGo 2 (bName 3) (f2 dMod (f2 dItem (fVar 1) (f2 dMod (fVar 3) (f1 dLen (fVar 1)))) (f1 dLen (fVar 2))) [some sm, some (.list (iD ds)), some (.list left), none] (js.map fun j => .int (0 + (j : Nat))) left = .ok ys ∧ (ys ++ rest).Perm left ∧ ys.length = js.length
  | [], left, _, _, _ => ⟨[], left, rfl, List.Perm.refl _, rfl⟩
  | j :: js, left, h1, h2, h3 => by
    rw [List.length_cons] at h1
    have hm : (0 : Int) < ds.length := by omega
    have hl : (0 : Int) < left.length := by omega
    have e := item_ints (ns := ds) (i := (0 + (j : Nat) : Int) % ds.length) (Int.emod_nonneg _ (by omega)) (Int.emod_lt_of_pos _ hm)
    obtain ⟨d, hd'⟩ : ∃ d, d = ds[((0 + (j : Nat) : Int) % ds.length).toNat]'(by have := Int.emod_lt_of_pos (0 + (j : Nat) : Int) hm; have := Int.emod_nonneg (0 + (j : Nat) : Int) (show (ds.length : Int) ≠ 0 by omega); omega) := ⟨_, rfl⟩
    rw [← hd'] at e
    have hdn : 0 ≤ d := by rw [hd']; exact h3 _ (List.getElem_mem _)
    obtain ⟨n, hn⟩ : ∃ n : Nat, d % (left.length : Int) = n := ⟨(d % (left.length : Int)).toNat, by have := Int.emod_nonneg d (show (left.length : Int) ≠ 0 by omega); omega⟩
    have hnl : n < left.length := by have := Int.emod_lt_of_pos d hl; omega
    have idx : ∀ l2 : List D, l2.length = left.length → (f2 dMod (f2 dItem (fVar 1) (f2 dMod (fVar 3) (f1 dLen (fVar 1)))) (f1 dLen (fVar 2))) [some sm, some (.list (iD ds)), some (.list l2), some (.int (0 + (j : Nat)))] = .ok (.int n) := fun l2 hl2 => by
      simp only [v_f2, v_f1, v_fVarS, v_fVar0, PL.R.bind_ok, dLen_list, List.length_map, dMod_int hm, e, hl2, dMod_int hl, hn]
    obtain ⟨ys, rest, e1, p1, l1⟩ := mixed_go sm ds hd js (left.eraseIdx n) (by rw [List.length_eraseIdx_of_lt hnl]; omega) (by rw [List.length_eraseIdx_of_lt hnl]; omega) h3
    refine ⟨left[n] :: ys, rest, ?_, ?_, by rw [List.length_cons, List.length_cons, l1]⟩
    · rw [List.map_cons]
      unfold popGo
      simp only [v_bName, List.set_cons_succ, List.set_cons_zero, PL.R.bind_ok]
      rw [idx left rfl, PL.R.bind_ok, place_nat hnl (by omega), PL.R.bind_ok, List.getElem?_eq_getElem hnl]
      dsimp only
      have key : ∀ (xs : List D) (l2 l3 : List D), popGo 2 (bName 3) (f2 dMod (f2 dItem (fVar 1) (f2 dMod (fVar 3) (f1 dLen (fVar 1)))) (f1 dLen (fVar 2))) [some sm, some (.list (iD ds)), some (.list l2), none] xs l3 =
          popGo 2 (bName 3) (f2 dMod (f2 dItem (fVar 1) (f2 dMod (fVar 3) (f1 dLen (fVar 1)))) (f1 dLen (fVar 2))) [some sm, some (.list (iD ds)), some (.list left), none] xs l3 := fun xs => by
        induction xs with
        | nil => intro l2 l3; rfl
        | cons x r ih =>
          intro l2 l3
          unfold popGo
          simp only [List.set_cons_succ, List.set_cons_zero, ih]
      rw [← key _ (left.eraseIdx n), e1]
      rfl
    · refine List.Perm.trans (p1.cons _) ?_
      exact erase_perm left n left[n] (List.getElem?_eq_getElem hnl)
theorem mixed_is (xs : List D) (hx : xs.length ≤ 1000) (ds : List Int) (hd : 0 < ds.length) (h0 : ∀ d ∈ ds, 0 ≤ d) : ∃ ys, f__law_mixed [.list xs, .list (iD ds)] = .ok (.list ys) ∧ ys.Perm xs := by
  obtain ⟨ys, rest, e, p, l⟩ := mixed_go (.list xs) ds hd (List.range xs.length) xs (by simp) (by omega) h0
  have hr : rest = [] := by
    have := p.length_eq
    rw [List.length_append, l, List.length_range] at this
    exact List.length_eq_zero_iff.mp (by omega)
  subst hr
  rw [List.append_nil] at p
  refine ⟨ys, ?_, p⟩
  unfold f__law_mixed fnOut g__law_mixed
  have st : startE 4 [.list xs, .list (iD ds)] = [some (.list xs), some (.list (iD ds)), none, none] := rfl
  rw [st]
  simp only [v_sSeq, v_sSet, v_f1, v_fVar0, PL.R.bind_ok, dList_list, List.set_cons_succ, List.set_cons_zero]
  unfold sRetPop
  simp only [v_listS, v_list0, PL.R.bind_ok, v_iRange, v_f1, v_fVar0, dLen_list, dRange_nat xs.length (by omega), v_wipeS, v_wipe0, List.set_cons_succ, List.set_cons_zero]
  have e' : popGo 2 (bName 3) (f2 dMod (f2 dItem (fVar 1) (f2 dMod (fVar 3) (f1 dLen (fVar 1)))) (f1 dLen (fVar 2))) [some (.list xs), some (.list (iD ds)), some (.list xs), none] (rng 0 xs.length) xs = .ok ys := e
  rw [e']
  rfl
end W
set_option Elab.async false
set_option linter.all false
set_option maxRecDepth 100000
set_option maxHeartbeats 1000000
/-! MDp: the pool; draws. -/
namespace W
open PySem PySem.Spec PyProof.Rows L2 PL
def pool : List Str := ["ape", "bee", "cat", "dog", "elk", "fox", "gnu", "hen", "ibis", "jay", "kiwi", "z"]
theorem pool_is : f__law_pool [] = .ok (.list (sD pool)) := by
  unfold f__law_pool
  refine out_rt ?_
  unfold g__law_pool
  refine st_ret ?_
  simp only [v_fLst, v_fCons, v_fNil, v_fC, PL.R.bind_ok]
  rfl
/-- a draw -/
theorem draw_at {ds : List Int} {i : Int} (h0 : 0 ≤ i) (h : i < ds.length) (hd : ∀ d ∈ ds, 0 ≤ d) : ∃ x : Int, dItem (.list (iD ds)) (.int i) = .ok (.int x) ∧ 0 ≤ x := by
  refine ⟨_, item_ints h0 h, hd _ (List.getElem_mem _)⟩
/-- the word at a draw -/
theorem word_at {os : List Str} {x : Int} (h : 0 < os.length) : ∃ i : Nat, ∃ hi : i < os.length, x % (os.length : Int) = i ∧ dItem (.list (sD os)) (.int i) = .ok (.str os[i]) := by
  have hl : (0 : Int) < os.length := by omega
  have h1 := Int.emod_nonneg x (show (os.length : Int) ≠ 0 by omega)
  have h2 := Int.emod_lt_of_pos x hl
  refine ⟨(x % (os.length : Int)).toNat, by omega, by omega, ?_⟩
  rw [item_list (by rw [List.length_map]; omega), List.getElem_map]
end W
set_option Elab.async false
set_option linter.all false
set_option maxRecDepth 100000
set_option maxHeartbeats 1000000
/-! MX: loops by what they keep; tuples and lists of texts and pairs (no program in sight). -/
namespace W
open PySem PySem.Spec PyProof.Rows L2 PL
/-- a loop that keeps something -/
theorem for_inv {α : Type} {b : D → PL.Env → PL.R PL.Env} {g : PL.Env → PL.R Out} {enc : α → D} (P : List α → PL.Env → Prop)
    (h : ∀ x r τ, P (x :: r) τ → ∃ τ', (b (enc x) τ).calm.bind g = .ok (.nx τ') ∧ P r τ') : ∀ (xs : List α) (τ : PL.Env), P xs τ → ∃ τ', forGo b g (xs.map enc) τ = .ok (.nx τ') ∧ P [] τ'
  | [], τ, hP => ⟨τ, rfl, hP⟩
  | x :: r, τ, hP => by
    obtain ⟨τ1, h1, h2⟩ := h x r τ hP
    obtain ⟨τ2, h3, h4⟩ := for_inv P h r τ1 h2
    refine ⟨τ2, ?_, h4⟩
    rw [List.map_cons, v_forS]
    cases hb : (b (enc x) τ).calm with
    | ok τ0 =>
      rw [hb] at h1
      rw [PL.R.bind_ok] at h1 ⊢
      rw [h1, PL.R.bind_ok]
      exact h3
    | err n => rw [hb] at h1; cases h1
    | bad => rw [hb] at h1; cases h1
/-- a loop that leaves all as it was -/
theorem for_keep {b : D → PL.Env → PL.R PL.Env} {g : PL.Env → PL.R Out} {τ : PL.Env} : ∀ (xs : List D), (∀ x ∈ xs, (b x τ).calm.bind g = .ok (.nx τ)) → forGo b g xs τ = .ok (.nx τ)
  | [], _ => rfl
  | x :: r, h => by
    have h1 := h x (.head _)
    rw [v_forS]
    cases hb : (b x τ).calm with
    | ok τ0 =>
      rw [hb] at h1
      rw [PL.R.bind_ok] at h1 ⊢
      rw [h1, PL.R.bind_ok]
      exact for_keep r fun y hy => h y (.tail _ hy)
    | err n => rw [hb] at h1; cases h1
    | bad => rw [hb] at h1; cases h1
theorem sD_app (a b : List Str) : sD (a ++ b) = sD a ++ sD b := List.map_append
theorem sD_map {α : Type} (f : α → Str) (xs : List α) : sD (xs.map f) = xs.map fun x => PyData.str (f x) := List.map_map
theorem sD_take (n : Nat) (xs : List Str) : sD (xs.take n) = (sD xs).take n := List.map_take
theorem rng_nat (n : Nat) : rng 0 n = (List.range n).map fun k => PyData.int (k : Nat) := by
  unfold rng
  simp
theorem near_nil (xs : List D) : near (.tuple xs) (.tuple []) = true ∧ near (.list xs) (.list []) = true := by
  have h : (PyData.tuple []).depth ≤ 64 ∧ (PyData.list []).depth ≤ 64 := by simp [PyData.depth, PyData.depthAll]
  unfold near
  constructor
  · simp only [isDict, Bool.not_false, Bool.true_and, decide_eq_true_eq]; exact Nat.le_trans (Nat.min_le_right _ _) h.1
  · simp only [isDict, Bool.not_false, Bool.true_and, decide_eq_true_eq]; exact Nat.le_trans (Nat.min_le_right _ _) h.2
theorem eqvAll_nil (xs : List D) : PyData.eqvAll xs [] = decide (xs = []) := by cases xs <;> simp [PyData.eqvAll]
theorem eqT_nil (xs : List D) : dEq (.tuple xs) (.tuple []) = .ok (.bool (decide (xs = []))) := by
  unfold dEq
  rw [if_pos (near_nil xs).1, PyData.eqv, eqvAll_nil]
theorem neT_nil (xs : List D) : dNe (.tuple xs) (.tuple []) = .ok (.bool (!decide (xs = []))) := by
  unfold dNe
  rw [if_pos (near_nil xs).1, PyData.eqv, eqvAll_nil]
theorem eqL_nil (xs : List D) : dEq (.list xs) (.list []) = .ok (.bool (decide (xs = []))) := by
  unfold dEq
  rw [if_pos (near_nil xs).2, PyData.eqv, eqvAll_nil]
theorem neL_nil (xs : List D) : dNe (.list xs) (.list []) = .ok (.bool (!decide (xs = []))) := by
  unfold dNe
  rw [if_pos (near_nil xs).2, PyData.eqv, eqvAll_nil]
theorem pD_mem' {E : List (Str × Str)} {p : Str × Str} : pD p ∈ E.map pD ↔ p ∈ E := by
  rw [List.mem_map]; exact ⟨fun ⟨q, hq, e⟩ => pD_inj e ▸ hq, fun h => ⟨p, h, rfl⟩⟩
theorem depth_p (p : Str × Str) : (pD p).depth ≤ 64 := Nat.le_trans (depth_tuple_le (k := 0) fun d hd => by
  rcases (show d = .str p.1 ∨ d = .str p.2 by simpa using hd) with e | e <;> rw [e] <;> simp [PyData.depth]) (by omega)
theorem in_pairs (E : List (Str × Str)) (p : Str × Str) : dIn (pD p) (.tuple (E.map pD)) = .ok (.bool (decide (p ∈ E))) := by
  rw [dInT_noB (noBs_pairs E) (noB_pD p) (depth_p p), decide_eq_decide.mpr pD_mem']
theorem notIn_pairs (E : List (Str × Str)) (p : Str × Str) : dNotIn (pD p) (.tuple (E.map pD)) = .ok (.bool (!decide (p ∈ E))) := by
  rw [dNotInT_noB (noBs_pairs E) (noB_pD p) (depth_p p), decide_eq_decide.mpr pD_mem']
theorem zip_strs : ∀ xs ys : List Str, zipD (sD xs) (sD ys) = (xs.zip ys).map pD
  | [], _ => rfl
  | _ :: _, [] => rfl
  | x :: xs, y :: ys => by
    have := zip_strs xs ys
    show _ :: zipD (sD xs) (sD ys) = _
    rw [this]; rfl
theorem sliceT_tail (xs : List D) : dSlice (.tuple xs) (some 1) none = .ok (.tuple xs.tail) := by
  have : PL.cut xs (some ((1 : Nat) : Int)) none = xs.drop 1 := by
    unfold PL.cut
    rw [HT.sIx_none, HT.sIx_nat]
    by_cases h : 1 ≤ xs.length
    · rw [Nat.min_eq_left h, List.take_of_length_le (by rw [List.length_drop]; omega)]
    · rw [Nat.min_eq_right (by omega), List.drop_of_length_le (Nat.le_refl _), List.drop_of_length_le (by omega), List.take_nil]
  show PL.R.ok (PyData.tuple (PL.cut xs (some ((1 : Nat) : Int)) none)) = _
  rw [this, List.drop_one]
theorem lastI {xs : List D} (h : xs ≠ []) : dItem (.tuple xs) (.int (-1)) = .ok (xs.getLast h) ∧ dItem (.list xs) (.int (-1)) = .ok (xs.getLast h) := by
  have hp := List.length_pos_iff.mpr h
  have e : ixN xs.length (-1) = some (xs.length - 1) := by
    unfold ixN
    rw [if_neg (by omega), if_pos (by omega)]
    congr 1
    omega
  have e2 : atI xs (-1) = some (xs.getLast h) := by
    unfold atI
    rw [e, Option.bind_some, List.getLast_eq_getElem, List.getElem?_eq_getElem (by omega)]
  constructor
  · simp only [dItem, e2]
  · simp only [dItem, e2]
theorem dNe_text (x y : Str) : dNe (.str x) (.str y) = .ok (.bool (!decide (x = y))) := by
  rw [dNe_noB (noB_str x) (noB_str y) (.inl (by simp [PyData.depth]))]
  congr 3
  exact decide_eq_decide.mpr ⟨fun h => by injection h, fun h => by rw [h]⟩
theorem dNeg_int (i : Int) : dNeg (.int i) = .ok (.int (-i)) := id rfl
theorem dPart_int (i : Int) : dPart (.int i) = .ok (some i) := id rfl
/-- all of them texts -/
def isStrD : D → Bool | .str _ => true | _ => false
theorem strs_of : ∀ {xs : List D}, xs.all isStrD = true → ∃ zs : List Str, xs = sD zs
  | [], _ => ⟨[], rfl⟩
  | x :: r, h => by
    rw [List.all_cons, Bool.and_eq_true] at h
    obtain ⟨zs, rfl⟩ := strs_of h.2
    cases x with
    | str z => exact ⟨z :: zs, rfl⟩
    | _ => cases h.1
theorem isStr_is (d : D) : dIsi "str" d = .ok (.bool (isStrD d)) := by cases d <;> rfl
theorem isTup_is (d : D) : dIsi "tuple" d = .ok (.bool (match d with | .tuple _ => true | _ => false)) := by cases d <;> rfl
theorem addLL (a b : List D) (h : a.length + b.length ≤ 5000) : dAdd (.list a) (.list b) = .ok (.list (a ++ b)) ∧ dAddL (.list a) (.list b) = .ok (.list (a ++ b)) := by
  have hz : a.length + b.length ≤ sizeLine := by show _ ≤ 2 ^ 24; omega
  constructor
  · show (if a.length + b.length ≤ sizeLine then PL.R.ok (PyData.list (a ++ b)) else .bad) = _
    rw [if_pos hz]
  · show (if a.length + b.length ≤ sizeLine then PL.R.ok (PyData.list (a ++ b)) else .bad) = _
    rw [if_pos hz]
theorem addTT (a b : List D) (h : a.length + b.length ≤ 5000) : dAdd (.tuple a) (.tuple b) = .ok (.tuple (a ++ b)) := by
  have hz : a.length + b.length ≤ sizeLine := by show _ ≤ 2 ^ 24; omega
  show (if a.length + b.length ≤ sizeLine then PL.R.ok (PyData.tuple (a ++ b)) else .bad) = _
  rw [if_pos hz]
theorem cut_both {α : Type} (xs : List α) (i j : Nat) (hi : i ≤ j) (hj : j ≤ xs.length) : PL.cut xs (some (i : Int)) (some (j : Int)) = (xs.drop i).take (j - i) := by
  unfold PL.cut
  rw [HT.sIx_nat, HT.sIx_nat, Nat.min_eq_left (by omega), Nat.min_eq_left (by omega)]
theorem sl_row (ds : List Int) (i j : Nat) (hi : i ≤ j) (hj : j ≤ ds.length) : dSlice (.list (iD ds)) (some (i : Int)) (some (j : Int)) = .ok (.list (iD ((ds.drop i).take (j - i)))) := by
  show PL.R.ok (PyData.list (PL.cut (iD ds) _ _)) = _
  rw [cut_both _ _ _ hi (by rw [List.length_map]; exact hj)]
  unfold iD
  rw [List.map_take, List.map_drop]
end W
set_option Elab.async false
set_option linter.all false
set_option maxRecDepth 100000
set_option maxHeartbeats 1000000
/-! MXp: items and slices of lists. -/
namespace W
open PySem PySem.Spec PyProof.Rows L2 PL
theorem row_at {ds : List Int} {i : Nat} (h : i < ds.length) : ∃ x : Int, dItem (.list (iD ds)) (.int (i : Nat)) = .ok (.int x) := by
  refine ⟨ds[i], ?_⟩
  rw [PL.item_listI (by omega) (by rw [List.length_map]; omega)]
  simp
theorem at_mem {xs : List D} {i : Int} (h0 : 0 ≤ i) (h : i < xs.length) : ∃ e ∈ xs, dItem (.list xs) (.int i) = .ok e := ⟨_, List.getElem_mem (by omega : i.toNat < xs.length), PL.item_listI h0 h⟩
theorem pick {xs : List D} (hx : xs ≠ []) (i : Int) : ∃ e ∈ xs, dItem (.list xs) (.int (i % (xs.length : Int))) = .ok e := by
  have := List.length_pos_iff.mpr hx
  exact at_mem (Int.emod_nonneg _ (by omega)) (Int.emod_lt_of_pos _ (by omega))
theorem cut_to {α : Type} (xs : List α) (i : Nat) : PL.cut xs none (some (i : Int)) = xs.take i := by
  unfold PL.cut
  rw [HT.sIx_none, HT.sIx_nat]
  simp [List.take_eq_take_iff]
theorem cut_from {α : Type} (xs : List α) (i : Nat) : PL.cut xs (some (i : Int)) none = xs.drop i := by
  unfold PL.cut
  rw [HT.sIx_none, HT.sIx_nat]
  by_cases h : i ≤ xs.length
  · rw [Nat.min_eq_left h, List.take_of_length_le (by rw [List.length_drop]; omega)]
  · rw [Nat.min_eq_right (by omega), List.drop_of_length_le (Nat.le_refl _), List.drop_of_length_le (by omega), List.take_nil]
theorem sl_to (xs : List D) (i : Nat) : dSlice (.list xs) none (some (i : Int)) = .ok (.list (xs.take i)) := by rw [← cut_to]; rfl
theorem sl_from (xs : List D) (i : Nat) : dSlice (.list xs) (some (i : Int)) none = .ok (.list (xs.drop i)) := by rw [← cut_from]; rfl
end W
set_option Elab.async false
set_option linter.all false
set_option maxRecDepth 100000
set_option maxHeartbeats 1000000
/-! MK: word_of. -/
namespace W
open PySem PySem.Spec PyProof.Rows L2 PL
/-- a dict of texts from pairs -/
def sk (O : List (Str × Str)) : List (D × D) := O.map fun p => (.str p.1, .str p.2)
theorem sk_mark (O : List (Str × Str)) : markT (sk O) = false := by cases O <;> rfl
theorem sk_fit (O : List (Str × Str)) (b : Str) : keyFit (sk O) (.str b) = true := by unfold keyFit; rw [sk_mark, if_neg (by decide)]; rfl
theorem sk_find (b : Str) : ∀ O : List (Str × Str), dFind (sk O) (.str b) = (O.lookup b).map PyData.str
  | [] => rfl
  | p :: O => by
    show dFind ((.str p.1, .str p.2) :: sk O) (.str b) = _
    unfold dFind
    rw [List.lookup_cons]
    by_cases h : p.1 = b
    · subst h; rw [if_pos rfl, beq_self_eq_true]; rfl
    · rw [if_neg (fun z => h (by injection z)), sk_find b O, beq_eq_false_iff_ne.mpr fun z => h z.symm]
theorem sk_set {O : List (Str × Str)} {p : Str × Str} (h : p.1 ∉ O.map (·.1)) : dSet (sk O) (.str p.1) (.str p.2) = sk (O ++ [p]) := by
  unfold dSet
  rw [if_neg]
  · simp [sk]
  · intro z
    obtain ⟨q, hq, e⟩ := List.any_eq_true.mp z
    obtain ⟨k, hk, rfl⟩ := List.mem_map.mp hq
    have := of_decide_eq_true e
    injection this with this
    exact h (List.mem_map.mpr ⟨k, hk, this⟩)
theorem fDc_pairs {τ : PL.Env} {it : PL.Env → PL.R (List D)} {b : D → PL.Env → PL.R PL.Env} {fk fv : PL.Env → PL.R D} {vs : List Nat} {τ1 : Str × Str → PL.Env} (O : List (Str × Str)) (hi : it τ = .ok (O.map pD)) (hb : ∀ p, b (pD p) (wipeE τ vs) = .ok (τ1 p))
    (hk : ∀ p, fk (τ1 p) = .ok (.str p.1)) (hv : ∀ p, fv (τ1 p) = .ok (.str p.2)) (nd : (O.map (·.1)).Nodup) (hl : O.length ≤ 900) : fDc vs it b tYes' fk fv τ = .ok (.dict (sk O)) := by
  have go : ∀ (xs K : List (Str × Str)), ((K ++ xs).map (·.1)).Nodup → (K ++ xs).length ≤ 900 → dcGo b tYes' fk fv (wipeE τ vs) (xs.map pD) (sk K) = .ok (sk (K ++ xs)) := fun xs => by
    induction xs with
    | nil => intro K _ _; rw [List.append_nil]; rfl
    | cons x r ih =>
      intro K nd hl
      rw [List.map_cons]
      unfold dcGo
      rw [hb x, PL.R.bind_ok]
      show (PL.R.ok true).bind _ = _
      rw [PL.R.bind_ok, if_pos rfl, hk, PL.R.bind_ok, hv, PL.R.bind_ok]
      have hK : (sk K).length = K.length := by simp [sk]
      rw [List.length_append, List.length_cons] at hl
      rw [if_pos ⟨rfl, by rw [hK]; exact small1000 (by omega)⟩]
      have hx : x.1 ∉ K.map (·.1) := fun h => by
        rw [List.map_append, List.map_cons] at nd
        exact (List.nodup_append.mp nd).2.2 x.1 h x.1 (.head _) rfl
      rw [sk_set hx]
      have := ih (K ++ [x]) (by rw [List.append_assoc]; exact nd) (by simp; omega)
      rw [this, List.append_assoc]; rfl
  unfold fDc
  rw [hi, PL.R.bind_ok]
  have := go O [] (by simpa using nd) (by simpa using hl)
  rw [show sk [] = [] from rfl] at this
  rw [this]; rfl
@[simp] theorem form0 (ws : List Str) (E N O : List (Str × Str)) : dItem (formT ws E N O) (.int 0) = .ok (.tuple (sD ws)) := id rfl
@[simp] theorem form1 (ws : List Str) (E N O : List (Str × Str)) : dItem (formT ws E N O) (.int 1) = .ok (.tuple (E.map pD)) := id rfl
@[simp] theorem form2 (ws : List Str) (E N O : List (Str × Str)) : dItem (formT ws E N O) (.int 2) = .ok (.tuple (N.map pD)) := id rfl
@[simp] theorem form3 (ws : List Str) (E N O : List (Str × Str)) : dItem (formT ws E N O) (.int 3) = .ok (.tuple (O.map pD)) := id rfl
def optD : Option Str → D | some z => .str z | none => .none
/-- the word that a name means -/
def wordOf (ws : List Str) (O : List (Str × Str)) (z : Str) : Option Str := if z ∈ ws then some z else O.lookup z
theorem word_of_is (ws : List Str) {E N O : List (Str × Str)} (nd : (O.map (·.1)).Nodup) (hO : O.length ≤ 900) (z : Str) : f_word_of [formT ws E N O, .str z] = .ok (optD (wordOf ws O z)) := by
  unfold f_word_of
  refine out_rt ?_
  unfold g_word_of
  have st : startE 4 [formT ws E N O, .str z] = [some (formT ws E N O), some (.str z), none, none] := rfl
  rw [st]
  have test : fTru (f2 dIn (fVar 1) (f2 dItem (fVar 0) (fC (.int 0)))) [some (formT ws E N O), some (.str z), none, none] = .ok (decide (z ∈ ws)) := by
    simp only [v_fVar0, v_fVarS, v_fC, v_f1, v_f2, v_fTru, v_tNotB, v_fNot, v_fNil, v_fCons, v_fTup, v_fLst, v_fCall, v_fSl, v_oNone, v_oSome, v_iSeq, v_iRange, PL.R.bind_ok, PL.R.calm_ok, dTruth_bool, form0, dIn_tstrs]
  unfold wordOf
  by_cases h : z ∈ ws
  · rw [decide_eq_true h] at test
    rw [if_pos h]
    exact st_ifT test (st_rt (st_ret rfl))
  · rw [decide_eq_false h] at test
    rw [if_neg h]
    refine st_ifF test (st_next (st_ret ?_))
    have a1 : fDc [2, 3] (iSeq (f2 dItem (fVar 0) (fC (.int 3)))) (bTup (bCons (bName 2) (bCons (bName 3) (bNil)))) tYes' ck1_word_of cv1_word_of [some (formT ws E N O), some (.str z), none, none] = .ok (.dict (sk O)) := by
      refine fDc_pairs (τ1 := fun p => [some (formT ws E N O), some (.str z), some (.str p.1), some (.str p.2)]) O ?_ (fun _ => rfl) (fun p => ?_) (fun p => ?_) nd hO
      · simp only [v_fVar0, v_fVarS, v_fC, v_f1, v_f2, v_fTru, v_tNotB, v_fNot, v_fNil, v_fCons, v_fTup, v_fLst, v_fCall, v_fSl, v_oNone, v_oSome, v_iSeq, v_iRange, PL.R.bind_ok, PL.R.calm_ok, dTruth_bool, form3, itemsOf]
      · simp only [ck1_word_of, v_fVar0, v_fVarS, v_fC, v_f1, v_f2, v_fTru, v_tNotB, v_fNot, v_fNil, v_fCons, v_fTup, v_fLst, v_fCall, v_fSl, v_oNone, v_oSome, v_iSeq, v_iRange, PL.R.bind_ok, PL.R.calm_ok, dTruth_bool]
      · simp only [cv1_word_of, v_fVar0, v_fVarS, v_fC, v_f1, v_f2, v_fTru, v_tNotB, v_fNot, v_fNil, v_fCons, v_fTup, v_fLst, v_fCall, v_fSl, v_oNone, v_oSome, v_iSeq, v_iRange, PL.R.bind_ok, PL.R.calm_ok, dTruth_bool]
    unfold fGet2
    rw [a1, PL.R.bind_ok]
    show (PL.R.ok (sk O)).bind _ = _
    rw [PL.R.bind_ok]
    show (PL.R.ok (PyData.str z)).bind _ = _
    rw [PL.R.bind_ok]
    show dGetO (sk O) (.str z) .none = _
    unfold dGetO
    rw [if_pos (sk_fit O z), sk_find]
    cases O.lookup z <;> rfl
theorem lookup_mem {O : List (Str × Str)} {z : Str} : (O.lookup z).isSome = decide (z ∈ O.map (·.1)) := by
  induction O with
  | nil => rfl
  | cons p r ih =>
    rw [List.lookup_cons]
    by_cases h : z = p.1
    · subst h; rw [beq_self_eq_true]; simp
    · rw [beq_eq_false_iff_ne.mpr h, ih]
      exact decide_eq_decide.mpr (by rw [List.map_cons, List.mem_cons]; exact ⟨.inr, fun x => x.elim (fun e => absurd e h) id⟩)
theorem wordOf_some (ws : List Str) (O : List (Str × Str)) (z : Str) : (wordOf ws O z).isSome = decide (z ∈ ws ++ O.map (·.1)) := by
  unfold wordOf
  by_cases h : z ∈ ws
  · rw [if_pos h]; exact (decide_eq_true (List.mem_append_left _ h)).symm
  · rw [if_neg h, lookup_mem]
    exact decide_eq_decide.mpr ⟨fun x => List.mem_append_right _ x, fun x => (List.mem_append.mp x).resolve_left h⟩
end W
set_option Elab.async false
set_option linter.all false
set_option maxRecDepth 100000
set_option maxHeartbeats 1000000
/-! MKB: asks. -/
namespace W
open PySem PySem.Spec PyProof.Rows L2 PL
inductive Ask where
  | all
  | leaf (k : Nat) (z : Str)
  | neg (a : Ask)
  | two (b : Bool) (a c : Ask)
def kindS (k : Nat) : Str := if k = 0 then "only" else if k = 1 then "under" else "by"
def bothS (b : Bool) : Str := if b = true then "and" else "or"
namespace Ask
def enc : Ask → D
  | .all => .tuple [.str "all"]
  | .leaf k z => .tuple [.str (kindS k), .str z]
  | .neg a => .tuple [.str "not", a.enc]
  | .two b a c => .tuple [.str (bothS b), a.enc, c.enc]
def size : Ask → Nat
  | .all => 1
  | .leaf _ _ => 1
  | .neg a => 1 + a.size
  | .two _ a c => 1 + (a.size + c.size)
def dep : Ask → Nat
  | .all => 0
  | .leaf _ _ => 0
  | .neg a => a.dep + 1
  | .two _ a c => max a.dep c.dep + 1
def names : Ask → List Str
  | .all => []
  | .leaf _ z => [z]
  | .neg a => a.names
  | .two _ a c => a.names ++ c.names
end Ask
end W
set_option Elab.async false
set_option linter.all false
set_option maxRecDepth 100000
set_option maxHeartbeats 1000000
/-! MKA: asks by digits. -/
namespace W
open PySem PySem.Spec PyProof.Rows L2 PL
section
variable {ws : List Str} {E N O : List (Str × Str)}
theorem law_ask_is (hn : ws.length + O.length ≤ 900) : ∀ (j m : Nat) (ds : List Int), j ≤ 3 → j < m → 2 ^ (j + 1) ≤ ds.length → ds.length ≤ 900 →
    ∃ a : Ask, fn__law_ask m [formT ws E N O, .list (iD ds), .int ((3 - j : Nat) : Int)] = .ok a.enc ∧ a.dep ≤ j ∧ ∀ z ∈ a.names, z ∈ ws ++ O.map (·.1)
  | j, 0, ds, _, hm, _, _ => absurd hm (Nat.not_lt_zero _)
  | j, m + 1, ds, hj, hm, hl, hl2 => by
    obtain ⟨k, hk⟩ : ∃ k, k = 3 - j := ⟨_, rfl⟩
    rw [← hk]
    have l2 : 2 ≤ ds.length := Nat.le_trans (by have : 2 ^ 1 ≤ 2 ^ (j + 1) := Nat.pow_le_pow_right (by omega) (by omega); simpa using this) hl
    obtain ⟨x0, e0⟩ := row_at (ds := ds) (i := 0) (by omega)
    obtain ⟨x1, e1⟩ := row_at (ds := ds) (i := 1) (by omega)
    have e0' : dItem (.list (iD ds)) (.int 0) = .ok (.int x0) := e0
    have e1' : dItem (.list (iD ds)) (.int 1) = .ok (.int x1) := e1
    obtain ⟨nm, hnm⟩ : ∃ nm, nm = ws ++ O.map (·.1) := ⟨_, rfl⟩
    rw [← hnm]
    have st : startE 7 [formT ws E N O, .list (iD ds), .int (k : Nat)] = [some (formT ws E N O), some (.list (iD ds)), some (.int (k : Nat)), none, none, none, none] := rfl
    have go : ∀ {e : D}, g__law_ask (fn__law_ask m) [some (formT ws E N O), some (.list (iD ds)), some (.int (k : Nat)), none, none, none, none] = .ok (.rt e) → fn__law_ask (m + 1) [formT ws E N O, .list (iD ds), .int (k : Nat)] = .ok e := fun {e} h => by
      show fnOut 7 (g__law_ask (fn__law_ask m)) [formT ws E N O, .list (iD ds), .int (k : Nat)] = _
      refine out_rt ?_
      rw [st]; exact h
    have i0 : dItem (formT ws E N O) (.int 0) = .ok (.tuple (sD ws)) := rfl
    have i3 : dItem (formT ws E N O) (.int 3) = .ok (.tuple (O.map pD)) := rfl
    have s1 : f2 dAdd (f1 dList (f2 dItem (fVar 0) (fC (.int 0)))) (fLc [6] (iSeq (f2 dItem (fVar 0) (fC (.int 3)))) (bName 6) (tYes') (ce1__law_ask (fn__law_ask m))) [some (formT ws E N O), some (.list (iD ds)), some (.int (k : Nat)), none, none, none, none] = .ok (.list (sD nm)) := by
      have a1 : fLc [6] (iSeq (f2 dItem (fVar 0) (fC (.int 3)))) (bName 6) (tYes') (ce1__law_ask (fn__law_ask m)) [some (formT ws E N O), some (.list (iD ds)), some (.int (k : Nat)), none, none, none, none] = .ok (.list (sD (O.map (·.1)))) := by
        have := fLc_map (enc := pD) (vs := [6]) (it := iSeq (f2 dItem (fVar 0) (fC (.int 3)))) (b := bName 6) (fe := ce1__law_ask (fn__law_ask m)) (τ := [some (formT ws E N O), some (.list (iD ds)), some (.int (k : Nat)), none, none, none, none]) (τ1 := fun p => [some (formT ws E N O), some (.list (iD ds)), some (.int (k : Nat)), none, none, none, some (pD p)]) O (fun p => .str p.1) ?_ (fun _ => rfl) fun p _ => ?_
        · rw [this, sD_map]
        · simp only [v_fVar0, v_fVarS, v_fC, v_f1, v_f2, v_fTru, v_tNotB, v_fNot, v_fNil, v_fCons, v_fTup, v_fLst, v_fCall, v_fSl, v_oNone, v_oSome, v_iSeq, v_iRange, PL.R.bind_ok, PL.R.calm_ok, dTruth_bool, i3, itemsOf]
        · simp only [ce1__law_ask, v_fVar0, v_fVarS, v_fC, v_f1, v_f2, v_fTru, v_tNotB, v_fNot, v_fNil, v_fCons, v_fTup, v_fLst, v_fCall, v_fSl, v_oNone, v_oSome, v_iSeq, v_iRange, PL.R.bind_ok, PL.R.calm_ok, dTruth_bool, item_pD0]
      have := (addLL (sD ws) (sD (O.map (·.1))) (by simp; omega)).1
      rw [v_f2, a1]
      simp only [v_fVar0, v_fVarS, v_fC, v_f1, v_f2, v_fTru, v_tNotB, v_fNot, v_fNil, v_fCons, v_fTup, v_fLst, v_fCall, v_fSl, v_oNone, v_oSome, v_iSeq, v_iRange, PL.R.bind_ok, PL.R.calm_ok, dTruth_bool, i0, dList_tuple, this, hnm, sD_app]
    obtain ⟨c, hc⟩ : ∃ c, c = x0 % 7 := ⟨_, rfl⟩
    have c0 : 0 ≤ c := by rw [hc]; exact Int.emod_nonneg _ (by omega)
    have c7 : c < 7 := by rw [hc]; exact Int.emod_lt_of_pos _ (by omega)
    have md : ∀ i b : Int, 0 < b → dMod (.int i) (.int b) = .ok (.int (i % b)) := fun i b h => dMod_int h
    have s2 : f2 dMod (f2 dItem (fVar 1) (fC (.int 0))) (fC (.int 7)) [some (formT ws E N O), some (.list (iD ds)), some (.int (k : Nat)), some (.list (sD nm)), none, none, none] = .ok (.int c) := by
      simp only [v_fVar0, v_fVarS, v_fC, v_f1, v_f2, v_fTru, v_tNotB, v_fNot, v_fNil, v_fCons, v_fTup, v_fLst, v_fCall, v_fSl, v_oNone, v_oSome, v_iSeq, v_iRange, PL.R.bind_ok, PL.R.calm_ok, dTruth_bool, e0', md x0 7 (by omega), hc]
    have t1 : tOrB (fTru (f2 dEq (fVar 3) (fLst (fNil)))) (tOrB (tAndB (fTru (f2 dGt (fVar 2) (fC (.int 2)))) (fTru (f2 dGt (fVar 4) (fC (.int 3))))) (fTru (f2 dEq (fVar 4) (fC (.int 0))))) [some (formT ws E N O), some (.list (iD ds)), some (.int (k : Nat)), some (.list (sD nm)), some (.int c), none, none] = .ok (decide (sD nm = []) || (decide ((2 : Int) < (k : Nat)) && decide (3 < c) || decide (c = 0))) := by
      simp only [v_tOrB, v_tAndB, v_fVar0, v_fVarS, v_fC, v_f1, v_f2, v_fTru, v_tNotB, v_fNot, v_fNil, v_fCons, v_fTup, v_fLst, v_fCall, v_fSl, v_oNone, v_oSome, v_iSeq, v_iRange, PL.R.bind_ok, PL.R.calm_ok, dTruth_bool, eqL_nil, dGt_int, dEq_int, ok_and, ok_or]
    have name : nm ≠ [] → ∃ z ∈ nm, f2 dItem (fVar 3) (f2 dMod (f2 dItem (fVar 1) (fC (.int 1))) (f1 dLen (fVar 3))) [some (formT ws E N O), some (.list (iD ds)), some (.int (k : Nat)), some (.list (sD nm)), some (.int c), none, none] = .ok (.str z) := fun h => by
      obtain ⟨e, he, ee⟩ := pick (xs := sD nm) (by simpa using h) x1
      obtain ⟨z, hz, rfl⟩ := List.mem_map.mp he
      have hp := List.length_pos_iff.mpr h
      refine ⟨z, hz, ?_⟩
      simp only [v_fVar0, v_fVarS, v_fC, v_f1, v_f2, v_fTru, v_tNotB, v_fNot, v_fNil, v_fCons, v_fTup, v_fLst, v_fCall, v_fSl, v_oNone, v_oSome, v_iSeq, v_iRange, PL.R.bind_ok, PL.R.calm_ok, dTruth_bool, e1', dLen_list, md x1 ((sD nm).length : Int) (by rw [List.length_map]; omega), ee]
    by_cases h1 : nm = [] ∨ ((2 : Int) < (k : Nat) ∧ 3 < c) ∨ c = 0
    · have e1 : (decide (sD nm = []) || (decide ((2 : Int) < (k : Nat)) && decide (3 < c) || decide (c = 0))) = true := by
        rw [Bool.or_eq_true, Bool.or_eq_true, Bool.and_eq_true]
        simp only [decide_eq_true_eq, List.map_eq_nil_iff]
        exact h1
      rw [e1] at t1
      have fd : dFdiv (.int x0) (.int 7) = .ok (.int (x0 / 7)) := dFdiv_int (by omega) (by omega)
      have t2 : tOrB (fTru (f2 dEq (fVar 3) (fLst (fNil)))) (fTru (f2 dEq (f2 dMod (f2 dFdiv (f2 dItem (fVar 1) (fC (.int 0))) (fC (.int 7))) (fC (.int 3))) (fC (.int 0)))) [some (formT ws E N O), some (.list (iD ds)), some (.int (k : Nat)), some (.list (sD nm)), some (.int c), none, none] = .ok (decide (sD nm = []) || decide (x0 / 7 % 3 = 0)) := by
        simp only [v_tOrB, v_fVar0, v_fVarS, v_fC, v_f1, v_f2, v_fTru, v_tNotB, v_fNot, v_fNil, v_fCons, v_fTup, v_fLst, v_fCall, v_fSl, v_oNone, v_oSome, v_iSeq, v_iRange, PL.R.bind_ok, PL.R.calm_ok, dTruth_bool, eqL_nil, e0', fd, md (x0 / 7) 3 (by omega), dEq_int, ok_or]
      by_cases h2 : nm = [] ∨ x0 / 7 % 3 = 0
      · have e2 : (decide (sD nm = []) || decide (x0 / 7 % 3 = 0)) = true := by
          rw [Bool.or_eq_true]
          simp only [decide_eq_true_eq, List.map_eq_nil_iff]
          exact h2
        rw [e2] at t2
        refine ⟨.all, go ?_, Nat.zero_le _, fun z hz => absurd hz List.not_mem_nil⟩
        unfold g__law_ask
        refine st_set s1 (st_set s2 (st_ifT t1 (st_rt (st_ret ?_))))
        simp only [List.set_cons_succ, List.set_cons_zero]
        rw [v_fIf, t2]; rfl
      · have hne : nm ≠ [] := fun z => h2 (.inl z)
        have e2 : (decide (sD nm = []) || decide (x0 / 7 % 3 = 0)) = false := by
          rw [Bool.or_eq_false_iff]
          exact ⟨decide_eq_false (by simpa using hne), decide_eq_false fun z => h2 (.inr z)⟩
        rw [e2] at t2
        obtain ⟨z, hz, ez⟩ := name hne
        refine ⟨.leaf 1 z, go ?_, Nat.zero_le _, fun y hy => by rw [List.mem_singleton.mp hy]; exact hz⟩
        unfold g__law_ask
        refine st_set s1 (st_set s2 (st_ifT t1 (st_rt (st_ret ?_))))
        simp only [List.set_cons_succ, List.set_cons_zero]
        rw [v_fIf, t2, PL.R.bind_ok, if_neg (by decide), v_fTup, v_fCons, v_fCons, ez]
        rfl
    have e1f : (decide (sD nm = []) || (decide ((2 : Int) < (k : Nat)) && decide (3 < c) || decide (c = 0))) = false := by
      cases hb : (decide (sD nm = []) || (decide ((2 : Int) < (k : Nat)) && decide (3 < c) || decide (c = 0))) with
      | false => rfl
      | true =>
        rw [Bool.or_eq_true, Bool.or_eq_true, Bool.and_eq_true] at hb
        simp only [decide_eq_true_eq, List.map_eq_nil_iff] at hb
        exact absurd hb h1
    rw [e1f] at t1
    have hne : nm ≠ [] := fun z => h1 (.inl z)
    have c1 : 1 ≤ c := by
      have : c ≠ 0 := fun z => h1 (.inr (.inr z))
      omega
    have t3 : fTru (f2 dLt (fVar 4) (fC (.int 4))) [some (formT ws E N O), some (.list (iD ds)), some (.int (k : Nat)), some (.list (sD nm)), some (.int c), none, none] = .ok (decide (c < 4)) := by simp only [v_fVar0, v_fVarS, v_fC, v_f1, v_f2, v_fTru, v_tNotB, v_fNot, v_fNil, v_fCons, v_fTup, v_fLst, v_fCall, v_fSl, v_oNone, v_oSome, v_iSeq, v_iRange, PL.R.bind_ok, PL.R.calm_ok, dTruth_bool, dLt_int]
    have t4 : fTru (f2 dEq (fVar 4) (fC (.int 4))) [some (formT ws E N O), some (.list (iD ds)), some (.int (k : Nat)), some (.list (sD nm)), some (.int c), none, none] = .ok (decide (c = 4)) := by simp only [v_fVar0, v_fVarS, v_fC, v_f1, v_f2, v_fTru, v_tNotB, v_fNot, v_fNil, v_fCons, v_fTup, v_fLst, v_fCall, v_fSl, v_oNone, v_oSome, v_iSeq, v_iRange, PL.R.bind_ok, PL.R.calm_ok, dTruth_bool, dEq_int]
    by_cases h3 : c < 4
    · rw [decide_eq_true h3] at t3
      obtain ⟨z, hz, ez⟩ := name hne
      obtain ⟨q, hq, q3⟩ : ∃ q : Nat, c - 1 = (q : Int) ∧ q < 3 := ⟨(c - 1).toNat, by omega⟩
      have iq : dItem (.list [.str "only", .str "under", .str "by"]) (.int (c - 1)) = .ok (.str (kindS q)) := by
        rw [hq]
        match q, q3 with
        | 0, _ => rfl
        | 1, _ => rfl
        | 2, _ => rfl
      refine ⟨.leaf q z, go ?_, Nat.zero_le _, fun y hy => by rw [List.mem_singleton.mp hy]; exact hz⟩
      unfold g__law_ask
      refine st_set s1 (st_set s2 (st_ifF t1 (st_next (st_ifT t3 (st_rt (st_ret ?_))))))
      simp only [List.set_cons_succ, List.set_cons_zero]
      have a1 : f2 dItem (fLst (fCons (fC (.str "only")) (fCons (fC (.str "under")) (fCons (fC (.str "by")) (fNil))))) (f2 dSub (fVar 4) (fC (.int 1))) [some (formT ws E N O), some (.list (iD ds)), some (.int (k : Nat)), some (.list (sD nm)), some (.int c), none, none] = .ok (.str (kindS q)) := by
        simp only [v_fVar0, v_fVarS, v_fC, v_f1, v_f2, v_fTru, v_tNotB, v_fNot, v_fNil, v_fCons, v_fTup, v_fLst, v_fCall, v_fSl, v_oNone, v_oSome, v_iSeq, v_iRange, PL.R.bind_ok, PL.R.calm_ok, dTruth_bool, dSub_int, iq]
      rw [v_fTup, v_fCons, v_fCons, a1, ez]
      rfl
    rw [decide_eq_false h3] at t3
    have hk2 : k ≤ 2 := by
      have : ¬ ((2 : Int) < (k : Nat) ∧ 3 < c) := fun z => h1 (.inr (.inl z))
      omega
    cases j with
    | zero => omega
    | succ j =>
      have ak : dAdd (.int (k : Nat)) (.int 1) = .ok (.int ((k + 1 : Nat) : Int)) := by rw [dAdd_int]; rfl
      have pw : 2 ^ (j + 1 + 1) = 2 ^ (j + 1) + 2 ^ (j + 1) := by rw [Nat.pow_succ]; omega
      have pw0 : 0 < 2 ^ (j + 1) := Nat.pos_of_ne_zero (by simp)
      obtain ⟨a, ea, da, na⟩ := law_ask_is hn j m (ds.drop 1) (by omega) (by omega) (by rw [List.length_drop]; omega) (by rw [List.length_drop]; omega)
      rw [show 3 - j = k + 1 by omega] at ea
      have sl1 : dSlice (.list (iD ds)) (some 1) none = .ok (.list (iD (ds.drop 1))) := by
        have := sl_from (iD ds) 1
        have e : dSlice (.list (iD ds)) (some 1) none = .ok (.list ((iD ds).drop 1)) := this
        rw [e]; unfold iD; rw [List.map_drop]
      by_cases h4 : c = 4
      · rw [decide_eq_true h4] at t4
        refine ⟨.neg a, go ?_, by simp only [Ask.dep]; omega, fun z hz => by rw [hnm]; exact na z hz⟩
        unfold g__law_ask
        refine st_set s1 (st_set s2 (st_ifF t1 (st_next (st_ifF t3 (st_next (st_ifT t4 (st_rt (st_ret ?_))))))))
        simp only [List.set_cons_succ, List.set_cons_zero, v_fVar0, v_fVarS, v_fC, v_f1, v_f2, v_fTru, v_tNotB, v_fNot, v_fNil, v_fCons, v_fTup, v_fLst, v_fCall, v_fSl, v_oNone, v_oSome, v_iSeq, v_iRange, PL.R.bind_ok, PL.R.calm_ok, dTruth_bool, dPart_int, sl1, ak, ea]; rfl
      · rw [decide_eq_false h4] at t4
        obtain ⟨h, hh⟩ : ∃ h, h = ds.length / 2 := ⟨_, rfl⟩
        obtain ⟨b, eb, db, nb⟩ := law_ask_is hn j m (ds.drop h) (by omega) (by omega) (by rw [List.length_drop]; omega) (by rw [List.length_drop]; omega)
        rw [show 3 - j = k + 1 by omega] at eb
        have fd2 : dFdiv (.int ((iD ds).length : Int)) (.int 2) = .ok (.int (h : Nat)) := by
          rw [dFdiv_int (by omega) (by omega), List.length_map, hh]; rfl
        have slh : dSlice (.list (iD ds)) (some ((h : Nat) : Int)) none = .ok (.list (iD (ds.drop h))) := by rw [sl_from]; unfold iD; rw [List.map_drop]
        obtain ⟨q, hq⟩ : ∃ q : Bool, dItem (.list [.str "and", .str "or"]) (.int (c - 5)) = .ok (.str (bothS q)) := by
          have : c = 5 ∨ c = 6 := by omega
          rcases this with e | e
          · exact ⟨true, by rw [e]; rfl⟩
          · exact ⟨false, by rw [e]; rfl⟩
        refine ⟨.two q a b, go ?_, by simp only [Ask.dep]; omega, fun z hz => by rw [hnm]; exact (List.mem_append.mp hz).elim (na z) (nb z)⟩
        unfold g__law_ask
        refine st_set s1 (st_set s2 (st_ifF t1 (st_next (st_ifF t3 (st_next (st_ifF t4 (st_next (st_set (d := .int (h : Nat)) ?_ (st_ret ?_)))))))))
        · simp only [List.set_cons_succ, List.set_cons_zero, v_fVar0, v_fVarS, v_fC, v_f1, v_f2, v_fTru, v_tNotB, v_fNot, v_fNil, v_fCons, v_fTup, v_fLst, v_fCall, v_fSl, v_oNone, v_oSome, v_iSeq, v_iRange, PL.R.bind_ok, PL.R.calm_ok, dTruth_bool, dLen_list, fd2]
        · simp only [List.set_cons_succ, List.set_cons_zero, v_fVar0, v_fVarS, v_fC, v_f1, v_f2, v_fTru, v_tNotB, v_fNot, v_fNil, v_fCons, v_fTup, v_fLst, v_fCall, v_fSl, v_oNone, v_oSome, v_iSeq, v_iRange, PL.R.bind_ok, PL.R.calm_ok, dTruth_bool, dSub_int, hq, dPart_int, sl1, slh, ak, ea, eb]; rfl
end
theorem intsOf_map : ∀ xs : List Int, intsOf (xs.map PyData.int) = some xs
  | [] => rfl
  | x :: r => by
    rw [List.map_cons]
    show (intsOf (r.map PyData.int)).map _ = _
    rw [intsOf_map r]; rfl
theorem sum_ints (xs : List Int) : dSum (.list (xs.map .int)) = .ok (.int xs.sum) := by
  show (match intsOf (xs.map PyData.int) with | some bs => PL.R.ok (PyData.int bs.sum) | none => .bad) = _
  rw [intsOf_map]
theorem law_parts_is : ∀ (a : Ask) (m : Nat), a.dep < m → fn__law_parts m [a.enc] = .ok (.int (a.size : Nat))
  | a, 0, h => absurd h (Nat.not_lt_zero _)
  | a, m + 1, h => by
    have go : ∀ (hd : D) (ps : List D) (cs : List Int), a.enc = .tuple (hd :: ps) → (fLc [1] (iSeq (fSl (fVar 0) (oSome (fC (.int 1))) (oNone))) (bName 1) (ct1__law_parts (fn__law_parts m)) (ce1__law_parts (fn__law_parts m)) [some a.enc, none] = .ok (.list (cs.map .int))) → 1 + cs.sum = (a.size : Nat) → fn__law_parts (m + 1) [a.enc] = .ok (.int (a.size : Nat)) := fun hd ps cs e h1 h2 => by
      show fnOut 2 (g__law_parts (fn__law_parts m)) [a.enc] = _
      refine out_rt ?_
      have st : startE 2 [a.enc] = [some a.enc, none] := rfl
      rw [st]
      unfold g__law_parts
      refine st_ret ?_
      simp only [v_f2, v_f1, v_fC, PL.R.bind_ok, h1, sum_ints, dAdd_int, h2]
    have it : ∀ (hd : D) (ps : List D), iSeq (fSl (fVar 0) (oSome (fC (.int 1))) (oNone)) [some (.tuple (hd :: ps)), none] = .ok ps := fun hd ps => by
      simp only [v_fVar0, v_fVarS, v_fC, v_f1, v_f2, v_fTru, v_tNotB, v_fNot, v_fNil, v_fCons, v_fTup, v_fLst, v_fCall, v_fSl, v_oNone, v_oSome, v_iSeq, v_iRange, PL.R.bind_ok, PL.R.calm_ok, dTruth_bool, dPart_int, sliceT_tail, itemsOf, List.tail_cons]
    have run : ∀ (hd : D) (ps : List D) (p : D → Bool) (q : D → D), (∀ x ∈ ps, dIsi "tuple" x = .ok (.bool (p x))) → (∀ x ∈ ps, p x = true → fn__law_parts m [x] = .ok (q x)) → fLc [1] (iSeq (fSl (fVar 0) (oSome (fC (.int 1))) (oNone))) (bName 1) (ct1__law_parts (fn__law_parts m)) (ce1__law_parts (fn__law_parts m)) [some (.tuple (hd :: ps)), none] = .ok (.list ((ps.filter p).map q)) := fun hd ps p q h1 h2 => by
      refine fLc_run (enc := id) (τ1 := fun x => [some (.tuple (hd :: ps)), some x]) ps p q ?_ (fun _ => rfl) (fun x hx => ?_) fun x hx hp => ?_
      · rw [it, List.map_id]
      · simp only [ct1__law_parts, v_fVar0, v_fVarS, v_fC, v_f1, v_f2, v_fTru, v_tNotB, v_fNot, v_fNil, v_fCons, v_fTup, v_fLst, v_fCall, v_fSl, v_oNone, v_oSome, v_iSeq, v_iRange, PL.R.bind_ok, PL.R.calm_ok, dTruth_bool, id, h1 x hx]
      · simp only [ce1__law_parts, v_fVar0, v_fVarS, v_fC, v_f1, v_f2, v_fTru, v_tNotB, v_fNot, v_fNil, v_fCons, v_fTup, v_fLst, v_fCall, v_fSl, v_oNone, v_oSome, v_iSeq, v_iRange, PL.R.bind_ok, PL.R.calm_ok, dTruth_bool, id, h2 x hx hp]
    have isT : ∀ x : Ask, dIsi "tuple" x.enc = .ok (.bool true) := fun x => by cases x <;> rfl
    cases a with
    | all => exact go _ _ [] rfl (by have := run (.str "all") [] (fun _ => true) id (fun x hx => absurd hx List.not_mem_nil) (fun x hx => absurd hx List.not_mem_nil); exact this) rfl
    | leaf k z =>
      refine go _ _ [] rfl ?_ rfl
      have := run (.str (kindS k)) [.str z] (fun _ => false) id (fun x hx => by rw [List.mem_singleton.mp hx]; rfl) (fun x hx h => by cases h)
      exact this
    | neg a =>
      have ih := law_parts_is a m (by simp only [Ask.dep] at h; omega)
      refine go _ _ [(a.size : Int)] rfl ?_ (by simp [Ask.size])
      have := run (.str "not") [a.enc] (fun _ => true) (fun _ => .int (a.size : Nat)) (fun x hx => by rw [List.mem_singleton.mp hx]; exact isT a) (fun x hx _ => by rw [List.mem_singleton.mp hx]; exact ih)
      exact this
    | two b a c =>
      have ih1 := law_parts_is a m (by simp only [Ask.dep] at h; omega)
      have ih2 := law_parts_is c m (by simp only [Ask.dep] at h; omega)
      refine go _ _ [(a.size : Int), (c.size : Int)] rfl ?_ (by simp [Ask.size])
      have r1 := fLc_run (enc := fun x : Ask => x.enc) (vs := [1]) (it := iSeq (fSl (fVar 0) (oSome (fC (.int 1))) (oNone))) (b := bName 1) (fc := ct1__law_parts (fn__law_parts m)) (fe := ce1__law_parts (fn__law_parts m)) (τ := [some (.tuple [.str (bothS b), a.enc, c.enc]), none]) (τ1 := fun x => [some (.tuple [.str (bothS b), a.enc, c.enc]), some x.enc]) [a, c] (fun _ => true) (fun x => .int (x.size : Nat)) (it _ _) (fun _ => rfl) (fun x _ => by simp only [ct1__law_parts, v_fVar0, v_fVarS, v_fC, v_f1, v_f2, v_fTru, v_tNotB, v_fNot, v_fNil, v_fCons, v_fTup, v_fLst, v_fCall, v_fSl, v_oNone, v_oSome, v_iSeq, v_iRange, PL.R.bind_ok, PL.R.calm_ok, dTruth_bool, isT]) fun x hx _ => by
        simp only [ce1__law_parts, v_fVar0, v_fVarS, v_fC, v_f1, v_f2, v_fTru, v_tNotB, v_fNot, v_fNil, v_fCons, v_fTup, v_fLst, v_fCall, v_fSl, v_oNone, v_oSome, v_iSeq, v_iRange, PL.R.bind_ok, PL.R.calm_ok, dTruth_bool]
        rcases (show x = a ∨ x = c by simpa using hx) with e | e <;> rw [e]
        · rw [ih1]
        · rw [ih2]
      exact r1
theorem an_ask_loop (bk dr : D) : ∀ (a : Ask), a.dep ≤ 20 → ∃ (b : Ask), whileGo (fTru (f2 dGt (fCall f__law_parts (fCons (fVar 2) (fNil))) (fC (.int 8)))) lb1__law_an_ask (a.dep + 1) [some bk, some dr, some a.enc] = .ok (.nx [some bk, some dr, some b.enc]) ∧ b.size ≤ 8 ∧ b.dep ≤ a.dep ∧ ∀ z ∈ b.names, z ∈ a.names
  | a, hd => by
    have pt : f__law_parts [a.enc] = .ok (.int (a.size : Nat)) := law_parts_is a 30 (by omega)
    have test : fTru (f2 dGt (fCall f__law_parts (fCons (fVar 2) (fNil))) (fC (.int 8))) [some bk, some dr, some a.enc] = .ok (decide (8 < a.size)) := by
      simp only [v_fVar0, v_fVarS, v_fC, v_f1, v_f2, v_fTru, v_tNotB, v_fNot, v_fNil, v_fCons, v_fTup, v_fLst, v_fCall, v_fSl, v_oNone, v_oSome, v_iSeq, v_iRange, PL.R.bind_ok, PL.R.calm_ok, dTruth_bool, pt, dGt_int]
      congr 1
      exact decide_eq_decide.mpr (by omega)
    have stop : a.size ≤ 8 → ∃ (b : Ask), whileGo (fTru (f2 dGt (fCall f__law_parts (fCons (fVar 2) (fNil))) (fC (.int 8)))) lb1__law_an_ask (a.dep + 1) [some bk, some dr, some a.enc] = .ok (.nx [some bk, some dr, some b.enc]) ∧ b.size ≤ 8 ∧ b.dep ≤ a.dep ∧ ∀ z ∈ b.names, z ∈ a.names := fun h => by
      refine ⟨a, ?_, h, Nat.le_refl _, fun _ h => h⟩
      unfold whileGo
      rw [test, decide_eq_false (by omega)]; rfl
    by_cases h8 : a.size ≤ 8
    · exact stop h8
    rw [decide_eq_true (by omega)] at test
    have more : ∀ (c : Ask), dItem a.enc (.int 1) = .ok c.enc → c.dep < a.dep → (∀ z ∈ c.names, z ∈ a.names) → (∃ (b : Ask), whileGo (fTru (f2 dGt (fCall f__law_parts (fCons (fVar 2) (fNil))) (fC (.int 8)))) lb1__law_an_ask (c.dep + 1) [some bk, some dr, some c.enc] = .ok (.nx [some bk, some dr, some b.enc]) ∧ b.size ≤ 8 ∧ b.dep ≤ c.dep ∧ ∀ z ∈ b.names, z ∈ c.names) → ∃ (b : Ask), whileGo (fTru (f2 dGt (fCall f__law_parts (fCons (fVar 2) (fNil))) (fC (.int 8)))) lb1__law_an_ask (a.dep + 1) [some bk, some dr, some a.enc] = .ok (.nx [some bk, some dr, some b.enc]) ∧ b.size ≤ 8 ∧ b.dep ≤ a.dep ∧ ∀ z ∈ b.names, z ∈ a.names := fun c hc hlt hn ⟨b, e, h1, h2, h3⟩ => by
      refine ⟨b, ?_, h1, by omega, fun z hz => hn z (h3 z hz)⟩
      unfold whileGo
      have body : lb1__law_an_ask [some bk, some dr, some a.enc] = .ok (.nx [some bk, some dr, some c.enc]) := by
        unfold lb1__law_an_ask
        rw [v_sSet]
        simp only [v_fVar0, v_fVarS, v_fC, v_f1, v_f2, v_fTru, v_tNotB, v_fNot, v_fNil, v_fCons, v_fTup, v_fLst, v_fCall, v_fSl, v_oNone, v_oSome, v_iSeq, v_iRange, PL.R.bind_ok, PL.R.calm_ok, dTruth_bool, hc]; rfl
      rw [test, PL.R.bind_ok, if_pos rfl, body, PL.R.bind_ok]
      show whileGo _ _ a.dep _ = _
      obtain ⟨n, hn2⟩ : ∃ n, a.dep = (c.dep + 1) + n := ⟨a.dep - (c.dep + 1), by omega⟩
      rw [whileGo_mono _ _ (c.dep + 1) a.dep _ (by omega) (by rw [e]; nofun), e]
    cases a with
    | all => exact absurd (by decide : Ask.all.size ≤ 8) h8
    | leaf k z => exact absurd (by decide : 1 ≤ 8) h8
    | neg c => exact more c rfl (by simp only [Ask.dep]; omega) (fun _ h => h) (an_ask_loop bk dr c (by simp only [Ask.dep] at hd; omega))
    | two q c e => exact more c rfl (by simp only [Ask.dep]; omega) (fun _ h => List.mem_append_left _ h) (an_ask_loop bk dr c (by simp only [Ask.dep] at hd; omega))
theorem an_ask_is {ws : List Str} {E N O : List (Str × Str)} (hn : ws.length + O.length ≤ 900) {ds : List Int} (hl : 16 ≤ ds.length) (hl2 : ds.length ≤ 900) : ∃ a : Ask, f__law_an_ask [formT ws E N O, .list (iD ds)] = .ok a.enc ∧ a.size ≤ 8 ∧ a.dep ≤ 3 ∧ ∀ z ∈ a.names, z ∈ ws ++ O.map (·.1) := by
  obtain ⟨a, e1, h1, h2⟩ := law_ask_is (ws := ws) (E := E) (N := N) (O := O) hn 3 30 ds (by omega) (by omega) hl hl2
  obtain ⟨b, e2, g1, g2, g3⟩ := an_ask_loop (formT ws E N O) (.list (iD ds)) a (by omega)
  refine ⟨b, ?_, g1, by omega, fun z hz => h2 z (g3 z hz)⟩
  unfold f__law_an_ask
  refine out_rt ?_
  unfold g__law_an_ask
  have st : startE 3 [formT ws E N O, .list (iD ds)] = [some (formT ws E N O), some (.list (iD ds)), none] := rfl
  rw [st]
  have e1' : f__law_ask [formT ws E N O, .list (iD ds), .int 0] = .ok a.enc := e1
  refine st_set (d := a.enc) (by simp only [v_fVar0, v_fVarS, v_fC, v_f1, v_f2, v_fTru, v_tNotB, v_fNot, v_fNil, v_fCons, v_fTup, v_fLst, v_fCall, v_fSl, v_oNone, v_oSome, v_iSeq, v_iRange, PL.R.bind_ok, PL.R.calm_ok, dTruth_bool, e1']) (st_nx (sWhile_eq e2 nofun) (st_ret ?_))
  simp only [v_fVar0, v_fVarS, v_fC, v_f1, v_f2, v_fTru, v_tNotB, v_fNot, v_fNil, v_fCons, v_fTup, v_fLst, v_fCall, v_fSl, v_oNone, v_oSome, v_iSeq, v_iRange, PL.R.bind_ok, PL.R.calm_ok, dTruth_bool]
end W
set_option Elab.async false
set_option linter.all false
set_option maxRecDepth 100000
set_option maxHeartbeats 1000000
/-! MPF: plain. -/
namespace W
open PySem PySem.Spec PyProof.Rows L2 PL
theorem itm0 (d : D) (xs : List D) : dItem (.tuple (d :: xs)) (.int 0) = .ok d := by
  have := PL.item_tuple (xs := d :: xs) (n := 0) (by simp)
  exact this
theorem itm1 (d e : D) (xs : List D) : dItem (.tuple (d :: e :: xs)) (.int 1) = .ok e := by
  have := PL.item_tuple (xs := d :: e :: xs) (n := 1) (by simp)
  exact this
theorem itl0 (d : D) (xs : List D) : dItem (.list (d :: xs)) (.int 0) = .ok d := by
  have := PL.item_list (xs := d :: xs) (n := 0) (by simp)
  exact this
theorem itl1 (d e : D) (xs : List D) : dItem (.list (d :: e :: xs)) (.int 1) = .ok e := by
  have := PL.item_list (xs := d :: e :: xs) (n := 1) (by simp)
  exact this
theorem st_star {f : PL.Env → PL.R D} {g2 : PL.Env → PL.R Out} {τ : PL.Env} {i j : Nat} {d : D} {t : List D} {r : PL.R Out} (h : f τ = .ok (.tuple (d :: t))) (hl : t.length ≤ 1000) (k : g2 ((τ.set i (some d)).set j (some (.list t))) = r) : sSeq (sStar i j f) g2 τ = r :=
  st_nx (by unfold sStar; rw [h, PL.R.bind_ok]; dsimp only; rw [if_pos hl]) k
namespace Ask
def hd : Ask → Str
  | .all => "all"
  | .leaf k _ => kindS k
  | .neg _ => "not"
  | .two b _ _ => bothS b
def subs : Ask → List Ask
  | .neg a => [a]
  | .two _ a c => [a, c]
  | _ => []
def prt : Ask → List D
  | .leaf _ z => [.str z]
  | a => a.subs.map Ask.enc
theorem enc_is (a : Ask) : a.enc = .tuple (.str a.hd :: a.prt) := by cases a <;> rfl
theorem prt_len (a : Ask) : a.prt.length ≤ 2 := by cases a <;> simp [prt, subs]
end Ask
/-- an ask by words alone -/
def plainA (ws : List Str) (O : List (Str × Str)) : Ask → Ask
  | .all => .all
  | .leaf k z => .leaf k ((wordOf ws O z).getD "")
  | .neg a => .neg (plainA ws O a)
  | .two b a c => .two b (plainA ws O a) (plainA ws O c)
theorem plain_dep (ws : List Str) (O : List (Str × Str)) : ∀ a : Ask, (plainA ws O a).dep = a.dep
  | .all => rfl
  | .leaf _ _ => rfl
  | .neg a => by simp only [plainA, Ask.dep, plain_dep ws O a]
  | .two _ a c => by simp only [plainA, Ask.dep, plain_dep ws O a, plain_dep ws O c]
theorem hd_named (a : Ask) : dIn (.str a.hd) (.tuple [.str "only", .str "under", .str "by"]) = .ok (.bool (match a with | .leaf _ _ => true | _ => false)) := by
  cases a with
  | all => rfl
  | leaf k z =>
    simp only [Ask.hd]
    unfold kindS
    split
    · rfl
    · split <;> rfl
  | neg a => rfl
  | two b a c => cases b <;> rfl
theorem word_of_name {ws : List Str} {O : List (Str × Str)} {z : Str} (h : z ∈ ws ++ O.map (·.1)) : wordOf ws O z = some ((wordOf ws O z).getD "") := by
  have := wordOf_some ws O z
  rw [decide_eq_true h] at this
  obtain ⟨w, hw⟩ := Option.isSome_iff_exists.mp this
  rw [hw]; rfl
theorem plain_is {ws : List Str} {E N O : List (Str × Str)} (nd : (O.map (·.1)).Nodup) (hO : O.length ≤ 900) : ∀ (a : Ask) (m : Nat), a.dep < m → (∀ z ∈ a.names, z ∈ ws ++ O.map (·.1)) → fn_plain m [formT ws E N O, a.enc] = .ok (plainA ws O a).enc
  | a, 0, h, _ => absurd h (Nat.not_lt_zero _)
  | a, m + 1, h, hz => by
    obtain ⟨bk, hbk⟩ : ∃ bk, bk = formT ws E N O := ⟨_, rfl⟩
    have go : ∀ r, g_plain (fn_plain m) [some bk, some (.tuple (.str a.hd :: a.prt)), none, none, none] = .ok (.rt r) → fn_plain (m + 1) [bk, a.enc] = .ok r := fun r e => by
      show fnOut 5 (g_plain (fn_plain m)) [bk, a.enc] = _
      rw [a.enc_is]
      refine out_rt ?_
      exact e
    have sub : ∀ p ∈ a.subs, fn_plain m [bk, p.enc] = .ok (plainA ws O p).enc := fun p hp => by
      rw [hbk]
      cases a with
      | all => exact absurd hp List.not_mem_nil
      | leaf k z => exact absurd hp List.not_mem_nil
      | neg a =>
        rw [List.mem_singleton.mp hp]
        exact plain_is nd hO a m (by simp only [Ask.dep] at h; omega) hz
      | two b a c =>
        rcases (show p = a ∨ p = c by simpa [Ask.subs] using hp) with e | e <;> rw [e]
        · exact plain_is nd hO a m (by simp only [Ask.dep] at h; omega) fun z q => hz z (List.mem_append_left _ q)
        · exact plain_is nd hO c m (by simp only [Ask.dep] at h; omega) fun z q => hz z (List.mem_append_right _ q)
    have inner : dIn (.str a.hd) (.tuple [.str "only", .str "under", .str "by"]) = .ok (.bool false) → a.prt = a.subs.map Ask.enc → (plainA ws O a).enc = .tuple (.str a.hd :: a.subs.map fun p => (plainA ws O p).enc) → fn_plain (m + 1) [bk, a.enc] = .ok (plainA ws O a).enc := fun hn hp he => by
      refine go _ ?_
      have ln := a.prt_len
      rw [he, hp]
      rw [hp] at ln
      unfold g_plain
      refine st_ifF (by simp only [v_fVar0, v_fVarS, v_fC, v_f1, v_f2, v_fTru, v_tNotB, v_fNot, v_fNil, v_fCons, v_fTup, v_fLst, v_fCall, v_fSl, v_oNone, v_oSome, v_iSeq, v_iRange, PL.R.bind_ok, PL.R.calm_ok, dTruth_bool, itm0, hn, dTruth_bool]) (st_next (st_star rfl (by omega) ?_))
      refine st_nx (τ' := [some bk, some (.tuple (.str a.hd :: a.subs.map Ask.enc)), some (.str a.hd), some (.list (a.subs.map Ask.enc)), none]) rfl (st_ret ?_)
      have := fLc_map (enc := Ask.enc) (vs := [4]) (it := iSeq (fVar 3)) (b := bName 4) (fe := ce1_plain (fn_plain m)) (τ := [some bk, some (.tuple (.str a.hd :: a.subs.map Ask.enc)), some (.str a.hd), some (.list (a.subs.map Ask.enc)), none]) (τ1 := fun p => [some bk, some (.tuple (.str a.hd :: a.subs.map Ask.enc)), some (.str a.hd), some (.list (a.subs.map Ask.enc)), some p.enc]) a.subs (fun p => (plainA ws O p).enc) rfl (fun _ => rfl) fun p hp' => by
        simp only [ce1_plain, v_fVar0, v_fVarS, v_fC, v_f1, v_f2, v_fTru, v_tNotB, v_fNot, v_fNil, v_fCons, v_fTup, v_fLst, v_fCall, v_fSl, v_oNone, v_oSome, v_iSeq, v_iRange, PL.R.bind_ok, PL.R.calm_ok, dTruth_bool, sub p hp']
      have ad : dAdd (.tuple [.str a.hd]) (.tuple (a.subs.map fun p => (plainA ws O p).enc)) = .ok (.tuple ([.str a.hd] ++ a.subs.map fun p => (plainA ws O p).enc)) := addTT _ _ (by simp at ln ⊢; omega)
      simp only [v_f2, v_f1, this, PL.R.bind_ok, dTuple_list, v_fVar0, v_fVarS, v_fC, v_f1, v_f2, v_fTru, v_tNotB, v_fNot, v_fNil, v_fCons, v_fTup, v_fLst, v_fCall, v_fSl, v_oNone, v_oSome, v_iSeq, v_iRange, PL.R.bind_ok, PL.R.calm_ok, dTruth_bool, ad]
      rfl
    rw [← hbk]
    have hn := hd_named a
    cases a with
    | all => exact inner hn rfl rfl
    | leaf k z =>
      refine go _ ?_
      have wo := word_of_is ws (E := E) (N := N) nd hO z
      rw [← hbk, word_of_name (hz z (by simp [Ask.names]))] at wo
      unfold g_plain
      refine st_ifT (by simp only [v_fVar0, v_fVarS, v_fC, v_f1, v_f2, v_fTru, v_tNotB, v_fNot, v_fNil, v_fCons, v_fTup, v_fLst, v_fCall, v_fSl, v_oNone, v_oSome, v_iSeq, v_iRange, PL.R.bind_ok, PL.R.calm_ok, dTruth_bool, itm0, hn, dTruth_bool]) (st_rt (st_ret ?_))
      simp only [v_fVar0, v_fVarS, v_fC, v_f1, v_f2, v_fTru, v_tNotB, v_fNot, v_fNil, v_fCons, v_fTup, v_fLst, v_fCall, v_fSl, v_oNone, v_oSome, v_iSeq, v_iRange, PL.R.bind_ok, PL.R.calm_ok, dTruth_bool, itm0, Ask.prt, itm1, wo, plainA, Ask.enc, optD]
      rfl
    | neg a => exact inner hn rfl rfl
    | two b a c => exact inner hn rfl rfl
end W
set_option Elab.async false
set_option linter.all false
set_option maxRecDepth 100000
set_option maxHeartbeats 1000000
/-! MFI: finds. -/
namespace W
open PySem PySem.Spec PyProof.Rows L2 PL
theorem dAny_run {α : Type} (xs : List α) (p : α → Bool) : dAny (.list (xs.map fun x => .bool (p x))) = .ok (.bool (xs.any p)) := by
  have e : ∀ xs : List α, boolsOf (xs.map fun x => .bool (p x)) = some (xs.map p) := fun xs => by
    induction xs with
    | nil => rfl
    | cons x r ih => rw [List.map_cons]; unfold boolsOf; rw [ih]; rfl
  unfold dAny
  dsimp only
  rw [e]
  simp only [List.any_map]
  rfl
theorem filtT {α : Type} (xs : List α) : xs.filter (fun _ => true) = xs := List.filter_eq_self.mpr fun _ _ => rfl
theorem in_pD (z : Str) (p : Str × Str) : dIn (.str z) (pD p) = .ok (.bool (decide (z ∈ [p.1, p.2]))) := dIn_tstrs [p.1, p.2] z
open Classical in
/-- what an ask by words finds -/
noncomputable def findA (E N : List (Str × Str)) (T : List Str) : Ask → Bool
  | .all => true
  | .leaf k z => if k = 0 then decide (z ∈ T) else if k = 1 then T.any (fun t => decide (t = z) || decide (z ∈ upsOf E t)) else decide (z ∈ T) || T.any fun t => N.any fun p => decide (z ∈ [p.1, p.2]) && decide (t ∈ [p.1, p.2])
  | .neg a => !findA E N T a
  | .two b a c => if b = true then findA E N T a && findA E N T c else findA E N T a || findA E N T c
theorem flat_any {α β : Type} (xs : List α) (ys : List β) (q : α → β → Bool) : (xs.flatMap fun x => ys.map fun y => PyData.bool (q x y)) = ((xs.flatMap fun x => ys.map fun y => q x y).map fun b => PyData.bool b) := by
  rw [List.map_flatMap]
  congr 1
  funext x
  rw [List.map_map]; rfl
theorem eq_kind (k : Nat) (s : Str) : dEq (.str (kindS k)) (.str s) = .ok (.bool (decide (kindS k = s))) := dEq_str _ _
theorem finds_is {ws : List Str} {E N O : List (Str × Str)} (hE : E.length ≤ 200) (hN : N.length ≤ 100) {T : List Str} (hT : T.length ≤ 100) : ∀ (a : Ask) (m : Nat), a.dep < m → fn_finds m [formT ws E N O, .tuple (sD T), a.enc] = .ok (.bool (findA E N T a))
  | a, 0, h => absurd h (Nat.not_lt_zero _)
  | a, m + 1, h => by
    obtain ⟨bk, hbk⟩ : ∃ bk, bk = formT ws E N O := ⟨_, rfl⟩
    obtain ⟨tg, htg⟩ : ∃ tg, tg = PyData.tuple (sD T) := ⟨_, rfl⟩
    obtain ⟨ak, hak⟩ : ∃ ak, ak = a.enc := ⟨_, rfl⟩
    have b2 : dItem bk (.int 2) = .ok (.tuple (N.map pD)) := by rw [hbk]; rfl
    have ab : ∀ t : Str, f_above [bk, .str t] = .ok (.list (sD (upsOf E t))) := fun t => by
      have := above_is ws (.tuple (N.map pD)) (.tuple (O.map pD)) hE t
      rw [hbk]; exact this
    rw [← hbk, ← htg]
    have itT : iSeq (fVar 1) [some bk, some tg, some ak, some (.str a.hd), none, some (.list a.prt), none, none] = .ok (sD T) := by rw [htg]; rfl
    obtain ⟨τ, hτ⟩ : ∃ τ : PL.Env, τ = [some bk, some tg, some ak, some (.str a.hd), none, some (.list a.prt), none, none] := ⟨_, rfl⟩
    have eqs : ∀ (s : Str) (c : Bool), decide (a.hd = s) = c → fTru (f2 dEq (fVar 3) (fC (.str s))) τ = .ok c := fun s c hc => by rw [hτ]; simp only [v_fVar0, v_fVarS, v_fC, v_f1, v_f2, v_fTru, v_tNotB, v_fNot, v_fNil, v_fCons, v_fTup, v_fLst, v_fCall, v_fSl, v_oNone, v_oSome, v_iSeq, v_iRange, PL.R.bind_ok, PL.R.calm_ok, dTruth_bool, dEq_str, hc]
    have go : ∀ r, sSeq (sIf (fTru (f2 dEq (fVar 3) (fC (.str "all")))) (sRet (fC (.bool true))) sNext) (sSeq (sIf (fTru (f2 dEq (fVar 3) (fC (.str "only")))) (sRet (f2 dIn (f2 dItem (fVar 5) (fC (.int 0))) (fVar 1))) (sNext)) (sSeq (sIf (fTru (f2 dEq (fVar 3) (fC (.str "under")))) (sRet (f1 dAny (fLc [7] (iSeq (fVar 1)) (bName 7) (tYes') ((ce1_finds (fn_finds m)))))) (sNext)) (sSeq (sIf (fTru (f2 dEq (fVar 3) (fC (.str "by")))) (sSeq (sSet 4 (fLc [6] (iSeq (f2 dItem (fVar 0) (fC (.int 2)))) (bName 6) ((ct1_finds (fn_finds m))) ((ce2_finds (fn_finds m))))) (sRet (fOr (f2 dIn (f2 dItem (fVar 5) (fC (.int 0))) (fVar 1)) (f1 dAny (fLc2 [7, 6] (iSeq (fVar 1)) (bName 7) (tYes') ((ci1_finds (fn_finds m))) [6] (bName 6) (tYes') ((ce3_finds (fn_finds m)))))))) (sNext)) (sSeq (sIf (fTru (f2 dEq (fVar 3) (fC (.str "not")))) (sRet (fNot (fCall (fn_finds m) (fCons (fVar 0) (fCons (fVar 1) (fCons (f2 dItem (fVar 5) (fC (.int 0))) (fNil))))))) (sNext)) (sSeq (sIf (fTru (f2 dEq (fVar 3) (fC (.str "and")))) (sRet (fAnd (fCall (fn_finds m) (fCons (fVar 0) (fCons (fVar 1) (fCons (f2 dItem (fVar 5) (fC (.int 0))) (fNil))))) (fCall (fn_finds m) (fCons (fVar 0) (fCons (fVar 1) (fCons (f2 dItem (fVar 5) (fC (.int 1))) (fNil))))))) (sNext)) (sRet (fOr (fCall (fn_finds m) (fCons (fVar 0) (fCons (fVar 1) (fCons (f2 dItem (fVar 5) (fC (.int 0))) (fNil))))) (fCall (fn_finds m) (fCons (fVar 0) (fCons (fVar 1) (fCons (f2 dItem (fVar 5) (fC (.int 1))) (fNil)))))))))))) τ = .ok (.rt r) → fn_finds (m + 1) [bk, tg, a.enc] = .ok r := fun r e => by
      show fnOut 8 (g_finds (fn_finds m)) [bk, tg, a.enc] = _
      refine out_rt ?_
      have st : startE 8 [bk, tg, a.enc] = [some bk, some tg, some a.enc, none, none, none, none, none] := rfl
      rw [st]
      have ln := a.prt_len
      rw [hτ, hak] at e
      unfold g_finds
      refine st_star (d := .str a.hd) (t := a.prt) (by rw [v_fVarS, v_fVarS, v_fVar0, a.enc_is]) (by omega) ?_
      exact e
    have sub : ∀ p : Ask, p.dep < a.dep → fn_finds m [bk, tg, p.enc] = .ok (.bool (findA E N T p)) := fun p hp => by
      rw [hbk, htg]
      exact finds_is hE hN hT p m (by omega)
    refine go _ ?_
    cases a with
    | all => exact st_ifT (eqs _ true (by decide)) (st_rt (st_ret rfl))
    | leaf k z =>
      have i0 : f2 dItem (fVar 5) (fC (.int 0)) τ = .ok (.str z) := by rw [hτ]; simp only [v_fVar0, v_fVarS, v_fC, v_f1, v_f2, v_fTru, v_tNotB, v_fNot, v_fNil, v_fCons, v_fTup, v_fLst, v_fCall, v_fSl, v_oNone, v_oSome, v_iSeq, v_iRange, PL.R.bind_ok, PL.R.calm_ok, dTruth_bool, Ask.prt, itl0]
      have inT : f2 dIn (f2 dItem (fVar 5) (fC (.int 0))) (fVar 1) τ = .ok (.bool (decide (z ∈ T))) := by
        rw [v_f2, i0, hτ, htg]; simp only [v_fVar0, v_fVarS, v_fC, v_f1, v_f2, v_fTru, v_tNotB, v_fNot, v_fNil, v_fCons, v_fTup, v_fLst, v_fCall, v_fSl, v_oNone, v_oSome, v_iSeq, v_iRange, PL.R.bind_ok, PL.R.calm_ok, dTruth_bool, dIn_tstrs]
      match k with
      | 0 =>
        refine st_ifF (eqs _ false (by rfl)) (st_next (st_ifT (eqs _ true (by rfl)) (st_rt (st_ret ?_))))
        rw [inT]; rfl
      | 1 =>
        refine st_ifF (eqs _ false (by rfl)) (st_next (st_ifF (eqs _ false (by rfl)) (st_next (st_ifT (eqs _ true (by rfl)) (st_rt (st_ret ?_))))))
        rw [hτ]
        have := fLc_map (enc := PyData.str) (vs := [7]) (it := iSeq (fVar 1)) (b := bName 7) (fe := ce1_finds (fn_finds m)) (τ := [some bk, some tg, some ak, some (.str (Ask.leaf 1 z).hd), none, some (.list (Ask.leaf 1 z).prt), none, none]) (τ1 := fun t => [some bk, some tg, some ak, some (.str (Ask.leaf 1 z).hd), none, some (.list (Ask.leaf 1 z).prt), none, some (.str t)]) T (fun t => .bool (decide (t = z) || decide (z ∈ upsOf E t))) itT (fun _ => rfl) fun t _ => by
          simp only [ce1_finds, v_fOr, v_fVar0, v_fVarS, v_fC, v_f1, v_f2, v_fTru, v_tNotB, v_fNot, v_fNil, v_fCons, v_fTup, v_fLst, v_fCall, v_fSl, v_oNone, v_oSome, v_iSeq, v_iRange, PL.R.bind_ok, PL.R.calm_ok, dTruth_bool, Ask.prt, itl0, dEq_str, ab, dIn_strs, ok_orD]
        rw [v_f1, this, PL.R.bind_ok, dAny_run]; rfl
      | k + 2 =>
        refine st_ifF (eqs _ false (by rfl)) (st_next (st_ifF (eqs _ false (by rfl)) (st_next (st_ifF (eqs _ false (by rfl)) (st_next (st_ifT (eqs _ true (by rfl)) (st_rt ?_)))))))
        rw [hτ]
        obtain ⟨hd, hhd⟩ : ∃ hd, hd = PyData.str (Ask.leaf (k + 2) z).hd := ⟨_, rfl⟩
        obtain ⟨pr, hpr⟩ : ∃ pr, pr = (Ask.leaf (k + 2) z).prt := ⟨_, rfl⟩
        rw [← hhd, ← hpr]
        have ip : dItem (.list pr) (.int 0) = .ok (.str z) := by rw [hpr]; exact itl0 _ _
        obtain ⟨NN, hNN⟩ : ∃ NN, NN = N.filter fun p => decide (z ∈ [p.1, p.2]) := ⟨_, rfl⟩
        have c1 : fLc [6] (iSeq (f2 dItem (fVar 0) (fC (.int 2)))) (bName 6) ((ct1_finds (fn_finds m))) ((ce2_finds (fn_finds m))) [some bk, some tg, some ak, some hd, none, some (.list pr), none, none] = .ok (.list (NN.map pD)) := by
          have := fLc_run (enc := pD) (vs := [6]) (it := iSeq (f2 dItem (fVar 0) (fC (.int 2)))) (b := bName 6) (fc := ct1_finds (fn_finds m)) (fe := ce2_finds (fn_finds m)) (τ := [some bk, some tg, some ak, some hd, none, some (.list pr), none, none]) (τ1 := fun p => [some bk, some tg, some ak, some hd, none, some (.list pr), some (pD p), none]) N (fun p => decide (z ∈ [p.1, p.2])) pD (by simp only [v_fVar0, v_fVarS, v_fC, v_f1, v_f2, v_fTru, v_tNotB, v_fNot, v_fNil, v_fCons, v_fTup, v_fLst, v_fCall, v_fSl, v_oNone, v_oSome, v_iSeq, v_iRange, PL.R.bind_ok, PL.R.calm_ok, dTruth_bool, b2, itemsOf]) (fun _ => rfl) (fun p _ => by simp only [ct1_finds, v_fVar0, v_fVarS, v_fC, v_f1, v_f2, v_fTru, v_tNotB, v_fNot, v_fNil, v_fCons, v_fTup, v_fLst, v_fCall, v_fSl, v_oNone, v_oSome, v_iSeq, v_iRange, PL.R.bind_ok, PL.R.calm_ok, dTruth_bool, ip, in_pD]) fun p _ _ => by simp only [ce2_finds, v_fVar0, v_fVarS, v_fC, v_f1, v_f2, v_fTru, v_tNotB, v_fNot, v_fNil, v_fCons, v_fTup, v_fLst, v_fCall, v_fSl, v_oNone, v_oSome, v_iSeq, v_iRange, PL.R.bind_ok, PL.R.calm_ok, dTruth_bool]
          rw [this, hNN]
        refine st_set c1 (st_ret ?_)
        simp only [List.set_cons_succ, List.set_cons_zero]
        have c2 := fLc2_run (enc := PyData.str) (enc1 := pD) (vs := [7, 6]) (vs1 := [6]) (it := iSeq (fVar 1)) (b := bName 7) (fc := tYes') (it1 := ci1_finds (fn_finds m)) (b1 := bName 6) (fc1 := tYes') (fe := ce3_finds (fn_finds m)) (τ := [some bk, some tg, some ak, some hd, some (.list (NN.map pD)), some (.list pr), none, none]) (τ1 := fun t => [some bk, some tg, some ak, some hd, some (.list (NN.map pD)), some (.list pr), none, some (.str t)]) (τ2 := fun t p => [some bk, some tg, some ak, some hd, some (.list (NN.map pD)), some (.list pr), some (pD p), some (.str t)])
          T (fun _ => NN) (fun _ => true) (fun _ _ => true) (fun t p => .bool (decide (t ∈ [p.1, p.2]))) (by rw [htg]; rfl) (fun _ => rfl) (fun _ _ => rfl) (fun _ _ => rfl) (fun t _ _ => by simp only [ci1_finds, v_fVar0, v_fVarS, v_fC, v_f1, v_f2, v_fTru, v_tNotB, v_fNot, v_fNil, v_fCons, v_fTup, v_fLst, v_fCall, v_fSl, v_oNone, v_oSome, v_iSeq, v_iRange, PL.R.bind_ok, PL.R.calm_ok, dTruth_bool, itemsOf]) (fun _ _ _ _ => rfl) (fun t _ p _ _ => by simp only [ce3_finds, v_fVar0, v_fVarS, v_fC, v_f1, v_f2, v_fTru, v_tNotB, v_fNot, v_fNil, v_fCons, v_fTup, v_fLst, v_fCall, v_fSl, v_oNone, v_oSome, v_iSeq, v_iRange, PL.R.bind_ok, PL.R.calm_ok, dTruth_bool, in_pD]) ?_
        · simp only [filtT] at c2
          rw [flat_any] at c2
          have inT' : f2 dIn (f2 dItem (fVar 5) (fC (.int 0))) (fVar 1) [some bk, some tg, some ak, some hd, some (.list (NN.map pD)), some (.list pr), none, none] = .ok (.bool (decide (z ∈ T))) := by
            rw [htg]; simp only [v_fVar0, v_fVarS, v_fC, v_f1, v_f2, v_fTru, v_tNotB, v_fNot, v_fNil, v_fCons, v_fTup, v_fLst, v_fCall, v_fSl, v_oNone, v_oSome, v_iSeq, v_iRange, PL.R.bind_ok, PL.R.calm_ok, dTruth_bool, ip, dIn_tstrs]
          have c3 := dAny_run (T.flatMap fun t => NN.map fun p => decide (t ∈ [p.1, p.2])) id
          rw [v_fOr, inT', v_f1, c2, PL.R.bind_ok]
          simp only [id] at c3
          simp only [v_fVar0, v_fVarS, v_fC, v_f1, v_f2, v_fTru, v_tNotB, v_fNot, v_fNil, v_fCons, v_fTup, v_fLst, v_fCall, v_fSl, v_oNone, v_oSome, v_iSeq, v_iRange, PL.R.bind_ok, PL.R.calm_ok, dTruth_bool, c3, ok_orD]
          have e : (T.flatMap fun t => NN.map fun p => decide (t ∈ [p.1, p.2])).any id = T.any fun t => N.any fun p => decide (z ∈ [p.1, p.2]) && decide (t ∈ [p.1, p.2]) := by
            rw [List.any_flatMap]
            congr 1
            funext t
            rw [List.any_map, hNN, List.any_filter]; rfl
          rw [e]
          unfold findA
          rw [if_neg (by omega), if_neg (by omega)]
        · rw [List.length_flatMap, sizeLine_eq]
          have l1 : NN.length ≤ 100 := by rw [hNN]; exact Nat.le_trans (List.length_filter_le _ _) hN
          have l2 : ∀ (R : List Str), ((R.filter fun _ => true).map fun x => ((NN.filter fun _ => true).map fun p => PyData.bool (decide (x ∈ [p.1, p.2]))).length).sum ≤ R.length * 100 := fun R => by
            simp only [filtT, List.length_map]
            induction R with
            | nil => simp
            | cons x r ih => rw [List.map_cons, List.sum_cons, List.length_cons]; omega
          have := l2 T
          have : T.length * 100 ≤ 100 * 100 := Nat.mul_le_mul hT (Nat.le_refl _)
          omega
    | neg p =>
      refine st_ifF (eqs _ false (by rfl)) (st_next (st_ifF (eqs _ false (by rfl)) (st_next (st_ifF (eqs _ false (by rfl)) (st_next (st_ifF (eqs _ false (by rfl)) (st_next (st_ifT (eqs _ true (by rfl)) (st_rt (st_ret ?_))))))))))
      rw [hτ]
      simp only [v_fVar0, v_fVarS, v_fC, v_f1, v_f2, v_fTru, v_tNotB, v_fNot, v_fNil, v_fCons, v_fTup, v_fLst, v_fCall, v_fSl, v_oNone, v_oSome, v_iSeq, v_iRange, PL.R.bind_ok, PL.R.calm_ok, dTruth_bool, Ask.prt, Ask.subs, List.map_cons, List.map_nil, itl0, sub p (by simp only [Ask.dep]; omega), findA]
    | two b p q =>
      have sp := sub p (by simp only [Ask.dep]; omega)
      have sq := sub q (by simp only [Ask.dep]; omega)
      cases b with
      | true =>
        refine st_ifF (eqs _ false (by rfl)) (st_next (st_ifF (eqs _ false (by rfl)) (st_next (st_ifF (eqs _ false (by rfl)) (st_next (st_ifF (eqs _ false (by rfl)) (st_next (st_ifF (eqs _ false (by rfl)) (st_next (st_ifT (eqs _ true (by rfl)) (st_rt (st_ret ?_))))))))))))
        rw [hτ]
        simp only [v_fAnd, v_fVar0, v_fVarS, v_fC, v_f1, v_f2, v_fTru, v_tNotB, v_fNot, v_fNil, v_fCons, v_fTup, v_fLst, v_fCall, v_fSl, v_oNone, v_oSome, v_iSeq, v_iRange, PL.R.bind_ok, PL.R.calm_ok, dTruth_bool, Ask.prt, Ask.subs, List.map_cons, List.map_nil, itl0, itl1, sp, sq, findA, ok_andD, if_pos]
      | false =>
        refine st_ifF (eqs _ false (by rfl)) (st_next (st_ifF (eqs _ false (by rfl)) (st_next (st_ifF (eqs _ false (by rfl)) (st_next (st_ifF (eqs _ false (by rfl)) (st_next (st_ifF (eqs _ false (by rfl)) (st_next (st_ifF (eqs _ false (by rfl)) (st_next (st_ret ?_))))))))))))
        rw [hτ]
        simp only [v_fOr, v_fVar0, v_fVarS, v_fC, v_f1, v_f2, v_fTru, v_tNotB, v_fNot, v_fNil, v_fCons, v_fTup, v_fLst, v_fCall, v_fSl, v_oNone, v_oSome, v_iSeq, v_iRange, PL.R.bind_ok, PL.R.calm_ok, dTruth_bool, Ask.prt, Ask.subs, List.map_cons, List.map_nil, itl0, itl1, sp, sq, findA, ok_orD]
        rfl
/-- where an ask finds -/
noncomputable def placesA (E N : List (Str × Str)) (a : Ask) : List (List Str) → Nat → List D
  | [], _ => []
  | T :: r, k => (if findA E N T a = true then [.int (k : Nat)] else []) ++ placesA E N a r (k + 1)
abbrev tT (T : List Str) : D := .tuple (sD T)
theorem enum_run {τ : PL.Env} {b : D → PL.Env → PL.R PL.Env} {fc : PL.Env → PL.R Bool} {fe : PL.Env → PL.R D} {E N : List (Str × Str)} {a : Ask} {τ1 : Nat → List Str → PL.Env} (hb : ∀ k T, b (.tuple [.int (k : Nat), tT T]) τ = .ok (τ1 k T)) : ∀ (S : List (List Str)) (k : Nat), (∀ k, ∀ T ∈ S, fc (τ1 k T) = .ok (findA E N T a)) → (∀ k T, fe (τ1 k T) = .ok (.int (k : Nat))) →
    lcGo b fc fe τ (enumD k (S.map tT)) = .ok (placesA E N a S k)
  | [], k, _, _ => rfl
  | T :: r, k, hc, he => by
    show lcGo b fc fe τ (.tuple [.int (k : Nat), tT T] :: enumD (k + 1) (r.map tT)) = _
    unfold lcGo
    rw [hb, PL.R.bind_ok, hc k T (.head _), PL.R.bind_ok, enum_run hb r (k + 1) (fun k T hT => hc k T (.tail _ hT)) he]
    show _ = PL.R.ok ((if findA E N T a = true then [.int (k : Nat)] else []) ++ placesA E N a r (k + 1))
    cases findA E N T a with
    | true => rw [if_pos rfl, if_pos rfl, he]; rfl
    | false => rw [if_neg (by decide), if_neg (by decide)]; rfl
theorem fLc_enum {τ : PL.Env} {vs : List Nat} {f : PL.Env → PL.R D} {b : D → PL.Env → PL.R PL.Env} {fc : PL.Env → PL.R Bool} {fe : PL.Env → PL.R D} {E N : List (Str × Str)} {a : Ask} {τ1 : Nat → List Str → PL.Env} {S : List (List Str)} (hS : S.length ≤ 1000) (hf : f τ = .ok (.list (S.map tT))) (hb : ∀ k T, b (.tuple [.int (k : Nat), tT T]) (wipeE τ vs) = .ok (τ1 k T)) (hc : ∀ k, ∀ T ∈ S, fc (τ1 k T) = .ok (findA E N T a)) (he : ∀ k T, fe (τ1 k T) = .ok (.int (k : Nat))) :
    fLc vs (iEnum f) b fc fe τ = .ok (.list (placesA E N a S 0)) := by
  have e : iEnum f τ = .ok (enumD 0 (S.map tT)) := by
    rw [v_iEnum, hf, PL.R.bind_ok]
    show dEnum (.list (S.map tT)) = _
    rfl
  rw [v_fLc, e, PL.R.bind_ok, enum_run hb S 0 hc he]; rfl
theorem places_is {ws : List Str} {E N O : List (Str × Str)} (nd : (O.map (·.1)).Nodup) (hO : O.length ≤ 900) (hE : E.length ≤ 200) (hN : N.length ≤ 100) {S : List (List Str)} (hS : S.length ≤ 1000) (hT : ∀ T ∈ S, T.length ≤ 100) (a : Ask) (ha : a.dep < 30) (hz : ∀ z ∈ a.names, z ∈ ws ++ O.map (·.1)) :
    f_places_of [formT ws E N O, .list (S.map tT), a.enc] = .ok (.list (placesA E N (plainA ws O a) S 0)) := by
  unfold f_places_of
  refine out_rt ?_
  unfold g_places_of
  have st : startE 6 [formT ws E N O, .list (S.map tT), a.enc] = [some (formT ws E N O), some (.list (S.map tT)), some a.enc, none, none, none] := rfl
  rw [st]
  have e1 : f_plain [formT ws E N O, a.enc] = .ok (plainA ws O a).enc := plain_is nd hO a 30 ha hz
  have e2 : ∀ T ∈ S, f_finds [formT ws E N O, tT T, (plainA ws O a).enc] = .ok (.bool (findA E N T (plainA ws O a))) := fun T h => finds_is hE hN (hT T h) _ 30 (by rw [plain_dep]; exact ha)
  refine st_set (d := (plainA ws O a).enc) (by simp only [v_fVar0, v_fVarS, v_fC, v_f1, v_f2, v_fTru, v_tNotB, v_fNot, v_fNil, v_fCons, v_fTup, v_fLst, v_fCall, v_fSl, v_oNone, v_oSome, v_iSeq, v_iRange, PL.R.bind_ok, PL.R.calm_ok, dTruth_bool, e1]) (st_ret ?_)
  simp only [List.set_cons_succ, List.set_cons_zero]
  refine fLc_enum (τ1 := fun k T => [some (formT ws E N O), some (.list (S.map tT)), some a.enc, some (plainA ws O a).enc, some (.int (k : Nat)), some (tT T)]) hS (by simp only [v_fVar0, v_fVarS, v_fC, v_f1, v_f2, v_fTru, v_tNotB, v_fNot, v_fNil, v_fCons, v_fTup, v_fLst, v_fCall, v_fSl, v_oNone, v_oSome, v_iSeq, v_iRange, PL.R.bind_ok, PL.R.calm_ok, dTruth_bool]) (fun k T => rfl) (fun k T h => ?_) fun k T => ?_
  · simp only [ct1_places_of, v_fVar0, v_fVarS, v_fC, v_f1, v_f2, v_fTru, v_tNotB, v_fNot, v_fNil, v_fCons, v_fTup, v_fLst, v_fCall, v_fSl, v_oNone, v_oSome, v_iSeq, v_iRange, PL.R.bind_ok, PL.R.calm_ok, dTruth_bool, e2 T h]
  · simp only [ce1_places_of, v_fVar0, v_fVarS, v_fC, v_f1, v_f2, v_fTru, v_tNotB, v_fNot, v_fNil, v_fCons, v_fTup, v_fLst, v_fCall, v_fSl, v_oNone, v_oSome, v_iSeq, v_iRange, PL.R.bind_ok, PL.R.calm_ok, dTruth_bool]
end W
set_option Elab.async false
set_option linter.all false
set_option maxRecDepth 100000
set_option maxHeartbeats 1000000
/-! MTG: _law_tags. -/
namespace W
open PySem PySem.Spec PyProof.Rows L2 PL
theorem mul_bit (z : Str) (d : Int) : ∃ b : Bool, dMul (.list [.str z]) (.int (d % 2)) = .ok (.list (sD (if b = true then [z] else []))) := by
  rcases (show d % 2 = 0 ∨ d % 2 = 1 by omega) with e | e
  · exact ⟨false, by rw [e]; rfl⟩
  · exact ⟨true, by rw [e]; rfl⟩
theorem tags_is (ws : List Str) (E : List (Str × Str)) (x y : D) (hw : ws.length ≤ 20) (d : Int) (hd : 0 ≤ d ∧ d ≤ 30000) : ∃ T : List Str, f__law_tags [bookD ws E x y, .int d] = .ok (.tuple (sD T)) ∧ T.Sublist ws := by
  have go : ∀ (R F : List Str) (d : Int), 0 ≤ d ∧ d ≤ 30000 → F.length + R.length ≤ 40 → ∃ (T : List Str) (d' : Int), forGo (bName 3) lb1__law_tags (sD R) [some (bookD ws E x y), some (.int d), some (.list (sD F)), none] = .ok (.nx [some (bookD ws E x y), some (.int d'), some (.list (sD (F ++ T))), none]) ∧ T.Sublist R := fun R => by
    induction R with
    | nil => intro F d _ _; exact ⟨[], d, by rw [List.append_nil]; rfl, List.Sublist.refl _⟩
    | cons z r ih =>
      intro F d hd hl
      rw [List.length_cons] at hl
      obtain ⟨b, eb⟩ := mul_bit z d
      have m2 : dMod (.int d) (.int 2) = .ok (.int (d % 2)) := dMod_int (by omega)
      have f2' : dFdiv (.int d) (.int 2) = .ok (.int (d / 2)) := dFdiv_int (by omega) (by omega)
      have ad := (addLL (sD F) (sD (if b = true then [z] else [])) (by simp only [List.length_map]; split <;> simp <;> omega)).1
      obtain ⟨T, d', e, s⟩ := ih (F ++ if b = true then [z] else []) (d / 2) (by omega) (by rw [List.length_append]; split <;> simp <;> omega)
      refine ⟨(if b = true then [z] else []) ++ T, d', ?_, ?_⟩
      · show forGo _ _ (.str z :: sD r) _ = _
        rw [v_forS]
        have e1 : bName 3 (.str z) [some (bookD ws E x y), some (.int d), some (.list (sD F)), none] = .ok [some (bookD ws E x y), some (.int d), some (.list (sD F)), some (.str z)] := rfl
        have e2 : lb1__law_tags [some (bookD ws E x y), some (.int d), some (.list (sD F)), some (.str z)] = .ok (.nx [some (bookD ws E x y), some (.int (d / 2)), some (.list (sD (F ++ if b = true then [z] else []))), none]) := by
          unfold lb1__law_tags
          refine st_set (d := .list (sD (F ++ if b = true then [z] else []))) (by simp only [v_fVar0, v_fVarS, v_fC, v_f1, v_f2, v_fTru, v_tNotB, v_fNot, v_fNil, v_fCons, v_fTup, v_fLst, v_fCall, v_fSl, v_oNone, v_oSome, v_iSeq, v_iRange, PL.R.bind_ok, PL.R.calm_ok, dTruth_bool, m2, eb, ad, sD_app]) (st_set (d := .int (d / 2)) (by simp only [List.set_cons_succ, List.set_cons_zero, v_fVar0, v_fVarS, v_fC, v_f1, v_f2, v_fTru, v_tNotB, v_fNot, v_fNil, v_fCons, v_fTup, v_fLst, v_fCall, v_fSl, v_oNone, v_oSome, v_iSeq, v_iRange, PL.R.bind_ok, PL.R.calm_ok, dTruth_bool, f2']) rfl)
        rw [e1]
        show ((lb1__law_tags _).bind _) = _
        rw [e2, PL.R.bind_ok, ← List.append_assoc]
        exact e
      · cases b with
        | true => exact s.cons₂ z
        | false => exact s.cons z
  obtain ⟨T, d', e, s⟩ := go ws [] d hd (by simp; omega)
  refine ⟨T, ?_, s⟩
  unfold f__law_tags
  refine out_rt ?_
  unfold g__law_tags
  have st : startE 4 [bookD ws E x y, .int d] = [some (bookD ws E x y), some (.int d), none, none] := rfl
  rw [st]
  refine st_set (d := .list []) rfl (st_for (ds := sD ws) (τ' := [some (bookD ws E x y), some (.int d'), some (.list (sD T)), none]) rfl e (st_ret rfl))
end W
set_option Elab.async false
set_option linter.all false
set_option maxRecDepth 100000
set_option maxHeartbeats 1000000
/-! MD: the law's books. -/
namespace W
open PySem PySem.Spec PyProof.Rows L2 PL
def envB (ds : List Int) (m : D) (os : List Str) (B N O : List (Str × Str)) : PL.Env := [some (.list (iD ds)), some m, some (.list (sD os)), none, some (.list (B.map pD)), some (.list (N.map pD)), some (.list (O.map pD)), none, none, none]
def envB3 (ds : List Int) (m : D) (os : List Str) (j : D) (B N O : List (Str × Str)) (o7 o8 o9 : Option D) : PL.Env := [some (.list (iD ds)), some m, some (.list (sD os)), some j, some (.list (B.map pD)), some (.list (N.map pD)), some (.list (O.map pD)), o7, o8, o9]
theorem set3 {ds : List Int} {m : D} {os : List Str} {B N O : List (Str × Str)} (j : D) : (envB ds m os B N O).set 3 (some j) = envB3 ds m os j B N O none none none := rfl
/-- a below b, by their places -/
def Up (os : List Str) (p : Str × Str) : Prop := ∃ i j : Nat, i < j ∧ os[i]? = some p.1 ∧ os[j]? = some p.2
theorem Up.mem {os : List Str} {p : Str × Str} (h : Up os p) : p.1 ∈ os ∧ p.2 ∈ os := by
  obtain ⟨i, j, _, h1, h2⟩ := h
  exact ⟨List.mem_of_getElem? h1, List.mem_of_getElem? h2⟩
theorem bk1_body {ds : List Int} (hd : ∀ d ∈ ds, 0 ≤ d) (m : D) {os : List Str} (ho : 0 < os.length) (B : List (Str × Str)) (hB : B.length ≤ 900) (j : Nat) (hj : 9 + j < ds.length) :
    ∃ B', lb1__law_book (envB3 ds m os (.int (0 + (j : Nat))) B [] [] none none none) = .ok (.nx (envB ds m os B' [] [])) ∧ (B' = B ∨ ∃ p, B' = B ++ [p] ∧ Up os p) := by
  obtain ⟨x, ex, x0⟩ := draw_at (ds := ds) (i := 9 + (0 + (j : Nat))) (by omega) (by omega) hd
  have hl : (0 : Int) < os.length := by omega
  obtain ⟨i1, hi1, e1, w1⟩ := word_at (os := os) (x := x) ho
  obtain ⟨i2, hi2, e2, w2⟩ := word_at (os := os) (x := x / 9) ho
  have small : B.length < sizeLine := small1000 (by omega)
  unfold lb1__law_book envB3
  by_cases hlt : i1 < i2
  · refine ⟨B ++ [(os[i1], os[i2])], ?_, .inr ⟨_, rfl, i1, i2, hlt, List.getElem?_eq_getElem hi1, List.getElem?_eq_getElem hi2⟩⟩
    refine st_set (d := .int i1) (by simp only [v_f2, v_f1, v_fVarS, v_fVar0, v_fC, PL.R.bind_ok, dAdd_int, ex, dLen_list, List.length_map, dMod_int hl, e1]) ?_
    simp only [List.set_cons_succ, List.set_cons_zero]
    refine st_set (d := .int i2) (by simp only [v_f2, v_f1, v_fVarS, v_fVar0, v_fC, PL.R.bind_ok, dAdd_int, ex, dLen_list, List.length_map, dFdiv_int (show (0 : Int) < 9 by omega) (by omega), dMod_int hl, e2]) ?_
    simp only [List.set_cons_succ, List.set_cons_zero]
    refine st_ifT (by simp only [v_fTru, v_f2, v_fVarS, v_fVar0, PL.R.bind_ok, dLt_int, dTruth_bool, decide_eq_true (show (i1 : Int) < i2 by omega)]) ?_
    refine st_app (xs := B.map pD) (d := pD (os[i1], os[i2])) rfl (by simp only [v_fTup, v_fCons, v_fNil, v_f2, v_fVarS, v_fVar0, PL.R.bind_ok, w1, w2]; rfl) (by rw [List.length_map]; exact small) ?_
    rw [show B.map pD ++ [pD (os[i1], os[i2])] = (B ++ [(os[i1], os[i2])]).map pD by simp]
    rfl
  · refine ⟨B, ?_, .inl rfl⟩
    refine st_set (d := .int i1) (by simp only [v_f2, v_f1, v_fVarS, v_fVar0, v_fC, PL.R.bind_ok, dAdd_int, ex, dLen_list, List.length_map, dMod_int hl, e1]) ?_
    simp only [List.set_cons_succ, List.set_cons_zero]
    refine st_set (d := .int i2) (by simp only [v_f2, v_f1, v_fVarS, v_fVar0, v_fC, PL.R.bind_ok, dAdd_int, ex, dLen_list, List.length_map, dFdiv_int (show (0 : Int) < 9 by omega) (by omega), dMod_int hl, e2]) ?_
    simp only [List.set_cons_succ, List.set_cons_zero]
    refine st_ifF (by simp only [v_fTru, v_f2, v_fVarS, v_fVar0, PL.R.bind_ok, dLt_int, dTruth_bool, decide_eq_false (show ¬ (i1 : Int) < i2 by omega)]) ?_
    refine st_next ?_
    rfl
theorem bk1_loop {ds : List Int} (hd : ∀ d ∈ ds, 0 ≤ d) (m : D) {os : List Str} (ho : 0 < os.length) : ∀ (js : List Nat) (B : List (Str × Str)), (∀ j ∈ js, 9 + j < ds.length) → B.length + js.length ≤ 900 → (∀ p ∈ B, Up os p) →
    ∃ B', forGo (bName 3) lb1__law_book (js.map fun j => .int (0 + (j : Nat))) (envB ds m os B [] []) = .ok (.nx (envB ds m os B' [] [])) ∧ B'.length ≤ B.length + js.length ∧ ∀ p ∈ B', Up os p
  | [], B, _, _, h => ⟨B, rfl, Nat.le_refl _, h⟩
  | j :: js, B, h1, h2, h3 => by
    rw [List.length_cons] at h2
    obtain ⟨B1, e, hB⟩ := bk1_body hd m ho B (by omega) j (h1 j List.mem_cons_self)
    have l1 : B1.length ≤ B.length + 1 := by
      rcases hB with rfl | ⟨p, rfl, _⟩
      · omega
      · simp
    have u1 : ∀ p ∈ B1, Up os p := by
      rcases hB with rfl | ⟨p, rfl, hp⟩
      · exact h3
      · intro q hq
        rcases List.mem_append.mp hq with hq | hq
        · exact h3 q hq
        · rw [List.mem_singleton.mp hq]; exact hp
    obtain ⟨B', e', l', u'⟩ := bk1_loop hd m ho js B1 (fun j hj => h1 j (List.mem_cons_of_mem _ hj)) (by omega) u1
    refine ⟨B', ?_, by rw [List.length_cons]; omega, u'⟩
    rw [List.map_cons, v_forS, v_bName, PL.R.calm_ok, PL.R.bind_ok, set3, e, PL.R.bind_ok]
    exact e'
/-- near one another: neither leads to the other; a < b -/
def Near (os : List Str) (B : List (Str × Str)) (p : Str × Str) : Prop := p.1 ∈ os ∧ p.2 ∈ os ∧ p.1.cps.toList < p.2.cps.toList ∧ ¬ Reach B p.1 p.2 ∧ ¬ Reach B p.2 p.1
theorem bk2_body {ds : List Int} (hd : ∀ d ∈ ds, 0 ≤ d) (m : D) {os : List Str} (B N : List (Str × Str)) (hB : B.length < 64) (hN : N.length ≤ 900) (j : Nat) (hj : 30 + j < ds.length) (hjo : j < os.length) :
    ∃ N', lb2__law_book (envB3 ds m os (.int (0 + (j : Nat))) B N [] none none none) = .ok (.nx (envB ds m os B N' [])) ∧ (N' = N ∨ ∃ p, N' = N ++ [p] ∧ Near os B p) := by
  obtain ⟨x, ex, x0⟩ := draw_at (ds := ds) (i := 30 + (0 + (j : Nat))) (by omega) (by omega) hd
  have hl : (0 : Int) < os.length := by omega
  obtain ⟨i, hi, e1, w1⟩ := word_at (os := os) (x := x) (by omega)
  have w0 : dItem (.list (sD os)) (.int (0 + (j : Nat))) = .ok (.str os[j]) := by
    have hz : (0 : Int) + (j : Nat) = (j : Int) := by omega
    rw [hz, item_list (by rw [List.length_map]; omega), List.getElem_map]
  have u1 := law_up_is (q := .list (B.map pD)) (E := B) rfl hB os[j]
  have u2 := law_up_is (q := .list (B.map pD)) (E := B) rfl hB os[i]
  have small : N.length < sizeLine := small1000 (by omega)
  have ap : (fAnd (f2 dNotIn (fVar 8) (fCall f__law_up (fCons (fVar 4) (fCons (fVar 7) fNil)))) (f2 dNotIn (fVar 7) (fCall f__law_up (fCons (fVar 4) (fCons (fVar 8) fNil))))) (envB3 ds m os (.int (0 + (j : Nat))) B N [] (some (.str os[j])) (some (.str os[i])) none) =
      .ok (.bool (!decide (os[i] ∈ upsOf B os[j]) && !decide (os[j] ∈ upsOf B os[i]))) := by
    simp only [envB3, v_fAnd, v_f2, v_fVarS, v_fVar0, v_fCall, v_fCons, v_fNil, PL.R.bind_ok, u1, u2, dNotIn_strs, dTruth_bool]
    by_cases h : os[i] ∈ upsOf B os[j]
    · simp [h]
    · simp [h]
  unfold lb2__law_book
  have go : ∀ {r}, sSeq (sIf (tAndB (fTru (f2 dLt (fVar 7) (fVar 8))) (tAndB (fTru (fVar 9)) (fTru (f2 dGt (f2 dMod (f2 dFdiv (f2 dItem (fVar 0) (f2 dAdd (fC (.int 30)) (fVar 3))) (fC (.int 9))) (fC (.int 3))) (fC (.int 0))))))
      (sApp 5 (fTup (fCons (fVar 7) (fCons (fVar 8) fNil)))) sNext) (sForget [7, 8, 9, 3]) (envB3 ds m os (.int (0 + (j : Nat))) B N [] (some (.str os[j])) (some (.str os[i])) (some (.bool (!decide (os[i] ∈ upsOf B os[j]) && !decide (os[j] ∈ upsOf B os[i]))))) = r →
      (sSeq (sSet 7 (f2 dItem (fVar 2) (fVar 3))) (sSeq (sSet 8 (f2 dItem (fVar 2) (f2 dMod (f2 dItem (fVar 0) (f2 dAdd (fC (.int 30)) (fVar 3))) (f1 dLen (fVar 2))))) (sSeq (sSet 9 (fAnd (f2 dNotIn (fVar 8) (fCall f__law_up (fCons (fVar 4) (fCons (fVar 7) fNil)))) (f2 dNotIn (fVar 7) (fCall f__law_up (fCons (fVar 4) (fCons (fVar 8) fNil))))))
        (sSeq (sIf (tAndB (fTru (f2 dLt (fVar 7) (fVar 8))) (tAndB (fTru (fVar 9)) (fTru (f2 dGt (f2 dMod (f2 dFdiv (f2 dItem (fVar 0) (f2 dAdd (fC (.int 30)) (fVar 3))) (fC (.int 9))) (fC (.int 3))) (fC (.int 0))))))
      (sApp 5 (fTup (fCons (fVar 7) (fCons (fVar 8) fNil)))) sNext) (sForget [7, 8, 9, 3]))))) (envB3 ds m os (.int (0 + (j : Nat))) B N [] none none none) = r := fun {r} h => by
    refine st_set (d := .str os[j]) (by simp only [envB3, v_f2, v_fVarS, v_fVar0, PL.R.bind_ok, w0]) ?_
    refine st_set (d := .str os[i]) (by simp only [envB3, List.set_cons_succ, List.set_cons_zero, v_f2, v_f1, v_fVarS, v_fVar0, v_fC, PL.R.bind_ok, dAdd_int, ex, dLen_list, List.length_map, dMod_int hl, e1, w1]) ?_
    exact st_set (d := .bool (!decide (os[i] ∈ upsOf B os[j]) && !decide (os[j] ∈ upsOf B os[i]))) ap h
  by_cases c1 : os[j].cps.toList < os[i].cps.toList
  · by_cases c2 : (!decide (os[i] ∈ upsOf B os[j]) && !decide (os[j] ∈ upsOf B os[i])) = true
    · by_cases c3 : (0 : Int) < x / 9 % 3
      · have near : Near os B (os[j], os[i]) := by
          simp only [Bool.and_eq_true, Bool.not_eq_true', decide_eq_false_iff_not, mem_ups] at c2
          exact ⟨List.getElem_mem _, List.getElem_mem _, c1, c2.1, c2.2⟩
        refine ⟨N ++ [(os[j], os[i])], go ?_, .inr ⟨_, rfl, near⟩⟩
        refine st_ifT (by simp only [envB3, v_tAndB, v_fTru, v_f2, v_fVarS, v_fVar0, v_fC, PL.R.bind_ok, dLt_str, dTruth_bool, decide_eq_true c1, if_true, c2, dAdd_int, ex, dFdiv_int (show (0 : Int) < 9 by omega) (by omega), dMod_int (show (0 : Int) < 3 by omega), dGt_int, decide_eq_true c3]) ?_
        refine st_app (xs := N.map pD) (d := pD (os[j], os[i])) rfl (by simp only [envB3, v_fTup, v_fCons, v_fNil, v_fVarS, v_fVar0, PL.R.bind_ok]; rfl) (by rw [List.length_map]; exact small) ?_
        rw [show N.map pD ++ [pD (os[j], os[i])] = (N ++ [(os[j], os[i])]).map pD by simp]
        rfl
      · refine ⟨N, go ?_, .inl rfl⟩
        refine st_ifF (by simp only [envB3, v_tAndB, v_fTru, v_f2, v_fVarS, v_fVar0, v_fC, PL.R.bind_ok, dLt_str, dTruth_bool, decide_eq_true c1, if_true, c2, dAdd_int, ex, dFdiv_int (show (0 : Int) < 9 by omega) (by omega), dMod_int (show (0 : Int) < 3 by omega), dGt_int, decide_eq_false c3]) ?_
        exact st_next rfl
    · refine ⟨N, go ?_, .inl rfl⟩
      refine st_ifF (by simp only [envB3, v_tAndB, v_fTru, v_f2, v_fVarS, v_fVar0, v_fC, PL.R.bind_ok, dLt_str, dTruth_bool, decide_eq_true c1, if_true, if_neg c2]) ?_
      exact st_next rfl
  · refine ⟨N, go ?_, .inl rfl⟩
    refine st_ifF (by simp only [envB3, v_tAndB, v_fTru, v_f2, v_fVarS, v_fVar0, v_fC, PL.R.bind_ok, dLt_str, dTruth_bool, decide_eq_false c1, Bool.false_eq_true, if_false]) ?_
    exact st_next rfl
theorem bk2_loop {ds : List Int} (hd : ∀ d ∈ ds, 0 ≤ d) (m : D) {os : List Str} (B : List (Str × Str)) (hB : B.length < 64) : ∀ (js : List Nat) (N : List (Str × Str)), (∀ j ∈ js, 30 + j < ds.length ∧ j < os.length) → N.length + js.length ≤ 900 → (∀ p ∈ N, Near os B p) →
    ∃ N', forGo (bName 3) lb2__law_book (js.map fun j => .int (0 + (j : Nat))) (envB ds m os B N []) = .ok (.nx (envB ds m os B N' [])) ∧ N'.length ≤ N.length + js.length ∧ ∀ p ∈ N', Near os B p
  | [], N, _, _, h => ⟨N, rfl, Nat.le_refl _, h⟩
  | j :: js, N, h1, h2, h3 => by
    rw [List.length_cons] at h2
    obtain ⟨N1, e, hN⟩ := bk2_body hd m B N hB (by omega) j (h1 j List.mem_cons_self).1 (h1 j List.mem_cons_self).2
    have l1 : N1.length ≤ N.length + 1 := by
      rcases hN with rfl | ⟨p, rfl, _⟩
      · omega
      · simp
    have u1 : ∀ p ∈ N1, Near os B p := by
      rcases hN with rfl | ⟨p, rfl, hp⟩
      · exact h3
      · intro q hq
        rcases List.mem_append.mp hq with hq | hq
        · exact h3 q hq
        · rw [List.mem_singleton.mp hq]; exact hp
    obtain ⟨N', e', l', u'⟩ := bk2_loop hd m B hB js N1 (fun j hj => h1 j (List.mem_cons_of_mem _ hj)) (by omega) u1
    refine ⟨N', ?_, by rw [List.length_cons]; omega, u'⟩
    rw [List.map_cons, v_forS, v_bName, PL.R.calm_ok, PL.R.bind_ok, set3, e, PL.R.bind_ok]
    exact e'
theorem bk3_body {ds : List Int} (hd : ∀ d ∈ ds, 0 ≤ d) (m : D) {os : List Str} (ho : 0 < os.length) (B N O : List (Str × Str)) (hO : O.length ≤ 900) (j : Nat) (hj : 41 + j < ds.length) (hj4 : j < 4) :
    ∃ w, w ∈ os ∧ lb3__law_book (envB3 ds m os (.int (0 + (j : Nat))) B N O none none none) = .ok (.nx (envB ds m os B N (O ++ [(pool[8 + j]'(by show 8 + j < 12; omega), w)]))) := by
  obtain ⟨x, ex, x0⟩ := draw_at (ds := ds) (i := 41 + (0 + (j : Nat))) (by omega) (by omega) hd
  have hl : (0 : Int) < os.length := by omega
  obtain ⟨i, hi, e1, w1⟩ := word_at (os := os) (x := x) ho
  have hp : 8 + j < pool.length := by show 8 + j < 12; omega
  have w0 : dItem (.list (sD pool)) (.int (8 + (0 + (j : Nat)))) = .ok (.str (pool[8 + j]'hp)) := by
    have hz : (8 : Int) + (0 + (j : Nat)) = ((8 + j : Nat) : Int) := by omega
    rw [hz, item_list (by rw [List.length_map]; exact hp), List.getElem_map]
  have small : O.length < sizeLine := small1000 (by omega)
  refine ⟨os[i], List.getElem_mem _, ?_⟩
  unfold lb3__law_book envB3
  refine st_app (xs := O.map pD) (d := pD (pool[8 + j]'hp, os[i])) rfl (by simp only [v_fTup, v_fCons, v_fNil, v_fCall, v_f2, v_f1, v_fVarS, v_fVar0, v_fC, PL.R.bind_ok, pool_is, dAdd_int, w0, ex, dLen_list, List.length_map, dMod_int hl, e1, w1]; rfl) (by rw [List.length_map]; exact small) ?_
  rw [show O.map pD ++ [pD (pool[8 + j]'hp, os[i])] = (O ++ [(pool[8 + j]'hp, os[i])]).map pD by simp]
  rfl
theorem bk3_loop {ds : List Int} (hd : ∀ d ∈ ds, 0 ≤ d) (hl : 45 ≤ ds.length) (m : D) {os : List Str} (ho : 0 < os.length) (B N : List (Str × Str)) : ∀ n, n ≤ 4 → ∃ O : List (Str × Str), forGo (bName 3) lb3__law_book (rng 0 n) (envB ds m os B N []) = .ok (.nx (envB ds m os B N O)) ∧ O.map (·.1) = (pool.drop 8).take n ∧ ∀ p ∈ O, p.2 ∈ os
  | 0, _ => ⟨[], rfl, rfl, fun p h => absurd h List.not_mem_nil⟩
  | n + 1, hn => by
    obtain ⟨O, e, e1, e2⟩ := bk3_loop hd hl m ho B N n (by omega)
    have lO : O.length = n := by
      have := congrArg List.length e1
      rw [List.length_map, List.length_take, List.length_drop] at this
      have : pool.length = 12 := rfl
      omega
    obtain ⟨w, hw, eb⟩ := bk3_body hd m ho B N O (by omega) n (by omega) (by omega)
    refine ⟨O ++ [(pool[8 + n]'(by show 8 + n < 12; omega), w)], ?_, ?_, fun p hp => ?_⟩
    · have er : rng 0 (n + 1) = rng 0 n ++ [.int (0 + (n : Nat))] := by unfold rng; rw [List.range_succ, List.map_append]; rfl
      have app : ∀ (xs ys : List D) (τ τ' : PL.Env), forGo (bName 3) lb3__law_book xs τ = .ok (.nx τ') → forGo (bName 3) lb3__law_book (xs ++ ys) τ = forGo (bName 3) lb3__law_book ys τ' := by
        intro xs
        induction xs with
        | nil => intro ys τ τ' h; cases h; rfl
        | cons x r ih =>
          intro ys τ τ' h
          rw [List.cons_append, v_forS]
          rw [v_forS] at h
          obtain ⟨τ1, a1, h⟩ := bind_ok' h
          obtain ⟨o, a2, h⟩ := bind_ok' h
          rw [a1, PL.R.bind_ok, a2, PL.R.bind_ok]
          cases o with
          | nx τ2 => exact ih ys τ2 τ' h
          | rt d => cases h
      rw [er, app _ _ _ _ e, v_forS, v_bName, PL.R.calm_ok, PL.R.bind_ok, set3, eb, PL.R.bind_ok]
      rfl
    · rw [List.map_append, e1]
      have : (pool.drop 8)[n]? = some (pool[8 + n]'(by show 8 + n < 12; omega)) := by rw [List.getElem?_drop]; exact List.getElem?_eq_getElem _
      rw [List.take_add_one, this]
      rfl
    · rcases List.mem_append.mp hp with hp | hp
      · exact e2 p hp
      · rw [List.mem_singleton.mp hp]; exact hw
end W
set_option Elab.async false
set_option linter.all false
set_option maxRecDepth 100000
set_option maxHeartbeats 1000000
/-! ME: a book by digits. -/
namespace W
open PySem PySem.Spec PyProof.Rows L2 PL
/-- what is known of a book by digits -/
structure BookBy (many : Nat) (os : List Str) (B N O : List (Str × Str)) : Prop where
  nd : os.Nodup
  len : os.length ≤ many
  sub : ∀ x, x ∈ os → x ∈ pool.take 8
  lenB : B.length ≤ os.length * 2
  up : ∀ p ∈ B, Up os p
  lenN : N.length ≤ os.length
  near : ∀ p ∈ N, Near os B p
  oth : ∃ n, n ≤ 3 ∧ O.map (·.1) = (pool.drop 8).take n
  othW : ∀ p ∈ O, p.2 ∈ os
noncomputable def theBook (os : List Str) (B N O : List (Str × Str)) : D := bookD (sortS os) (ssP B) (.tuple ((ssP N).map pD)) (.tuple (O.map pD))
theorem range_d {τ : PL.Env} {f : PL.Env → PL.R D} {n : Nat} (h : f τ = .ok (.int n)) (hn : n ≤ 16777216) : iRange f τ = .ok (rng 0 n) := by rw [v_iRange, h, PL.R.bind_ok, dRange_nat n hn]
theorem book_is {ds : List Int} (hl : ds.length = 50) (hd : ∀ d ∈ ds, 0 ≤ d) (many : Nat) (hm : many ≤ 8) : ∃ os B N O, BookBy many os B N O ∧ f__law_book [.list (iD ds), .int many] = .ok (theBook os B N O) := by
  obtain ⟨ys, em, pm⟩ := mixed_is ((sD pool).take 8) (by simp [pool]) ds (by omega) hd
  rw [← List.map_take] at pm
  obtain ⟨os1, pm1, rfl⟩ := perm_of_map pm rfl
  obtain ⟨x, ex, x0⟩ := draw_at (ds := ds) (i := 8) (by omega) (by omega) hd
  obtain ⟨n, hn, hn2⟩ : ∃ n : Nat, x % ((many : Int) + 1) = n ∧ n ≤ many := ⟨(x % ((many : Int) + 1)).toNat, by have := Int.emod_nonneg x (show (many : Int) + 1 ≠ 0 by omega); omega, by have := Int.emod_lt_of_pos x (show (0 : Int) < (many : Int) + 1 by omega); have := Int.emod_nonneg x (show (many : Int) + 1 ≠ 0 by omega); omega⟩
  have hM : (0 : Int) < (many : Int) + 1 := by omega
  obtain ⟨os, hos⟩ : ∃ os, os = os1.take n := ⟨_, rfl⟩
  have len : os.length ≤ many := by rw [hos, List.length_take]; omega
  have nd1 : os1.Nodup := pm1.nodup_iff.mpr (by decide +kernel)
  have nd : os.Nodup := by rw [hos]; exact nd1.sublist (List.take_sublist _ _)
  have sub : ∀ x, x ∈ os → x ∈ pool.take 8 := fun x hx => pm1.mem_iff.mp (List.mem_of_mem_take (hos ▸ hx))
  have e2 : (fSl (fCall f__law_mixed (fCons (fSl (fCall f__law_pool fNil) oNone (oSome (fC (.int 8)))) (fCons (fVar 0) fNil))) oNone (oSome (f2 dMod (f2 dItem (fVar 0) (fC (.int 8))) (f2 dAdd (fVar 1) (fC (.int 1)))))) [some (.list (iD ds)), some (.int many), none, none, none, none, none, none, none, none] = .ok (.list (sD os)) := by
    have s8 : dSlice (.list (sD pool)) none (some 8) = .ok (.list ((sD pool).take 8)) := slice_to (sD pool) 8
    have part : ∀ i : Int, dPart (.int i) = .ok (some i) := fun _ => rfl
    simp only [v_fSl, v_fCall, v_fCons, v_fNil, v_oNone, v_oSome, v_f2, v_fVarS, v_fVar0, v_fC, PL.R.bind_ok, pool_is, part, s8, em, ex, dAdd_int, dMod_int hM, hn]
    rw [slice_to, hos, ← List.map_take]
  have last : ∀ B N O : List (Str × Str), B.length < 64 → N.length < 64 → sRet (fTup (fCons (f1 dTuple (f1 dSortedL (fVar 2))) (fCons (f1 dTuple (f1 dSortedSet (fVar 4))) (fCons (f1 dTuple (f1 dSortedSet (fVar 5))) (fCons (f1 dTuple (fVar 6)) fNil))))) (envB ds (.int many) os B N O) = .ok (.rt (theBook os B N O)) := fun B N O h1 h2 => by
    refine st_ret ?_
    simp only [envB, v_fTup, v_fCons, v_fNil, v_f1, v_fVarS, v_fVar0, PL.R.bind_ok, dSorted_strs, dSortedSet_pairs h1, dSortedSet_pairs h2, dTuple_list]
    rfl
  have ne0 : dNe (.list (sD os)) (.list []) = .ok (.bool (!decide (os = []))) := dNe_strs os []
  have mul2 : dMul (.int os.length) (.int 2) = .ok (.int ((os.length * 2 : Nat) : Int)) := by
    rw [dMul_r _ (inMul_of (by omega) (by omega))]
    rfl
  obtain ⟨y, ey, y0⟩ := draw_at (ds := ds) (i := 40) (by omega) (by omega) hd
  have first : ∀ {r}, sSeq (sFor (iRange (f2 dMul (f1 dLen (fVar 2)) (fC (.int 2)))) (bName 3) lb1__law_book) (sSeq (sKeep 4) (sSeq (sFor (iRange (f1 dLen (fVar 2))) (bName 3) lb2__law_book) (sSeq (sFor (iRange (fIf (fTru (f2 dNe (fVar 2) (fLst fNil))) (f2 dMod (f2 dItem (fVar 0) (fC (.int 40))) (fC (.int 4))) (fC (.int 0)))) (bName 3) lb3__law_book)
      (sRet (fTup (fCons (f1 dTuple (f1 dSortedL (fVar 2))) (fCons (f1 dTuple (f1 dSortedSet (fVar 4))) (fCons (f1 dTuple (f1 dSortedSet (fVar 5))) (fCons (f1 dTuple (fVar 6)) fNil))))))))) (envB ds (.int many) os [] [] []) = r → g__law_book (startE 10 [.list (iD ds), .int many]) = r := fun {r} h => by
    unfold g__law_book
    refine st_set (d := .list (sD os)) e2 ?_
    refine st_nx (by rw [v_sPar3]; simp only [v_fLst, v_fNil, PL.R.bind_ok]; rfl) ?_
    exact h
  by_cases h0 : os.length = 0
  · have e0 : os = [] := List.length_eq_zero_iff.mp h0
    refine ⟨os, [], [], [], ⟨nd, len, sub, by simp, fun p h => absurd h List.not_mem_nil, by simp, fun p h => absurd h List.not_mem_nil, ⟨0, by omega, rfl⟩, fun p h => absurd h List.not_mem_nil⟩, ?_⟩
    unfold f__law_book
    refine out_rt (first ?_)
    refine st_for (ds := []) ?_ rfl ?_
    · rw [range_d (n := 0) ?_ (by omega)]
      · rfl
      · simp only [envB, v_f2, v_f1, v_fVarS, v_fVar0, v_fC, PL.R.bind_ok, dLen_list, List.length_map, mul2]; rw [h0]
    refine st_nx (τ' := envB ds (.int many) os [] [] []) rfl ?_
    refine st_for (ds := []) ?_ rfl ?_
    · rw [range_d (n := 0) ?_ (by omega)]
      · rfl
      · simp only [envB, v_f1, v_fVarS, v_fVar0, PL.R.bind_ok, dLen_list, List.length_map]; rw [h0]
    refine st_for (ds := []) ?_ rfl ?_
    · rw [range_d (n := 0) ?_ (by omega)]
      · rfl
      · simp only [envB, v_fIf, v_fTru, v_f2, v_fLst, v_fNil, v_fVarS, v_fVar0, v_fC, PL.R.bind_ok, ne0, dTruth_bool]
        rw [decide_eq_true e0]
        simp
    exact last [] [] [] (by simp) (by simp)
  · have hpos : 0 < os.length := by omega
    obtain ⟨B, eB, lB, uB⟩ := bk1_loop hd (.int many) hpos (List.range (os.length * 2)) [] (fun j hj => by have := List.mem_range.mp hj; omega) (by simp; omega) (fun p h => absurd h List.not_mem_nil)
    have lB' : B.length ≤ os.length * 2 := by simpa using lB
    obtain ⟨N, eN, lN, uN⟩ := bk2_loop hd (.int many) (os := os) B (by omega) (List.range os.length) [] (fun j hj => by have := List.mem_range.mp hj; omega) (by simp; omega) (fun p h => absurd h List.not_mem_nil)
    have lN' : N.length ≤ os.length := by simpa using lN
    obtain ⟨q, hq, hq2⟩ : ∃ q : Nat, y % 4 = q ∧ q ≤ 3 := ⟨(y % 4).toNat, by omega, by omega⟩
    obtain ⟨O, eO, o1, o2⟩ := bk3_loop hd (by omega) (.int many) hpos B N q (by omega)
    refine ⟨os, B, N, O, ⟨nd, len, sub, lB', uB, lN', uN, ⟨q, hq2, o1⟩, o2⟩, ?_⟩
    unfold f__law_book
    refine out_rt (first ?_)
    refine st_for (ds := rng 0 (os.length * 2)) (range_d ?_ (by omega)) eB ?_
    · simp only [envB, v_f2, v_f1, v_fVarS, v_fVar0, v_fC, PL.R.bind_ok, dLen_list, List.length_map, mul2]
    refine st_nx (τ' := envB ds (.int many) os B [] []) rfl ?_
    refine st_for (ds := rng 0 os.length) (range_d ?_ (by omega)) eN ?_
    · simp only [envB, v_f1, v_fVarS, v_fVar0, PL.R.bind_ok, dLen_list, List.length_map]
    refine st_for (ds := rng 0 q) (range_d ?_ (by omega)) eO ?_
    · have e0 : ¬ os = [] := fun z => h0 (by rw [z]; rfl)
      simp only [envB, v_fIf, v_fTru, v_f2, v_fLst, v_fNil, v_fVarS, v_fVar0, v_fC, PL.R.bind_ok, ne0, dTruth_bool, decide_eq_false e0, Bool.not_false, if_true, ey, dMod_int (show (0 : Int) < 4 by omega), hq]
    exact last B N O (by omega) (by omega)
end W
set_option Elab.async false
set_option linter.all false
set_option maxRecDepth 100000
set_option maxHeartbeats 1000000
/-! MEa: _law_a_book. -/
namespace W
open PySem PySem.Spec PyProof.Rows L2 PL
theorem a_book_is (ns : List Int) (k : Nat) (hk : k ≤ 1000000) (many : Nat) (hm : many ≤ 8) : ∃ os B N O, BookBy many os B N O ∧ f__law_a_book [.list (iD ns), .int k, .int many] = .ok (theBook os B N O) := by
  obtain ⟨ds, e, l, b⟩ := draws_is ns k hk 50 (by omega) 27720 (by omega) (by omega)
  obtain ⟨os, B, N, O, bb, e2⟩ := book_is l (fun d h => (b d h).1) many hm
  refine ⟨os, B, N, O, bb, ?_⟩
  unfold f__law_a_book
  refine out_rt ?_
  unfold g__law_a_book
  refine st_ret ?_
  have st : startE 3 [.list (iD ns), .int k, .int many] = [some (.list (iD ns)), some (.int k), some (.int many)] := rfl
  have e' : f__law_draws [.list (iD ns), .int k, .int 50, .int 27720] = .ok (.list (iD ds)) := e
  rw [st]
  simp only [v_fCall, v_fCons, v_fNil, v_fVarS, v_fVar0, v_fC, PL.R.bind_ok, e', e2]
end W
set_option Elab.async false
set_option linter.all false
set_option maxRecDepth 100000
set_option maxHeartbeats 1000000
/-! MEc: more of a book by digits. -/
namespace W
open PySem PySem.Spec PyProof.Rows L2 PL
theorem nodup_pool : pool.Nodup := by decide +kernel
theorem apart_pool : ∀ w ∈ pool.drop 8, w ∉ pool.take 8 := by decide +kernel
section
variable {many : Nat} {os : List Str} {B N O : List (Str × Str)}
theorem BookBy.keysO (bb : BookBy many os B N O) : (O.map (·.1)).Nodup := by
  obtain ⟨n, _, e⟩ := bb.oth
  rw [e]
  exact (nodup_pool.sublist (List.drop_sublist _ _)).sublist (List.take_sublist _ _)
theorem BookBy.fewO (bb : BookBy many os B N O) : O.length ≤ 3 := by
  obtain ⟨n, hn, e⟩ := bb.oth
  have := congrArg List.length e
  rw [List.length_map, List.length_take] at this
  omega
theorem BookBy.keyO (bb : BookBy many os B N O) {p : Str × Str} (h : p ∈ O) : p.1 ∈ pool.drop 8 := by
  obtain ⟨n, _, e⟩ := bb.oth
  have : p.1 ∈ O.map (·.1) := List.mem_map.mpr ⟨p, h, rfl⟩
  rw [e] at this
  exact List.mem_of_mem_take this
theorem BookBy.outO (bb : BookBy many os B N O) {p : Str × Str} (h : p ∈ O) : p.1 ∉ os := fun z => apart_pool _ (bb.keyO h) (bb.sub _ z)
end
end W
set_option Elab.async false
set_option linter.all false
set_option maxRecDepth 100000
set_option maxHeartbeats 1000000
/-! M05a: chains by breadth, in plain terms. -/
namespace W
open PySem PySem.Spec PyProof.Rows L2 PL
/-- words, each with the chain by which it came -/
abbrev Came := List (Str × List Str)
def keysC (C : Came) : List Str := C.map (·.1)
def pathC : Came → Str → Option (List Str)
  | [], _ => none
  | e :: r, x => if e.1 = x then some e.2 else pathC r x
theorem pathC_none {x : Str} : ∀ {C : Came}, pathC C x = none ↔ x ∉ keysC C
  | [] => by simp [pathC, keysC]
  | e :: r => by
    unfold pathC keysC
    by_cases h : e.1 = x
    · simp [h]
    · rw [if_neg h, pathC_none (C := r), keysC, List.map_cons, List.mem_cons]
      constructor
      · intro a b; rcases b with b | b
        · exact h b.symm
        · exact a b
      · intro a b; exact a (.inr b)
theorem pathC_some {x : Str} {C : Came} (h : x ∈ keysC C) : ∃ p, pathC C x = some p := by
  cases e : pathC C x with
  | none => exact absurd h (pathC_none.mp e)
  | some p => exact ⟨p, rfl⟩
theorem pathC_mem {x : Str} {p : List Str} : ∀ {C : Came}, pathC C x = some p → (x, p) ∈ C
  | [], h => nomatch h
  | e :: r, h => by
    unfold pathC at h
    by_cases he : e.1 = x
    · rw [if_pos he] at h; cases h; subst he; exact .head _
    · rw [if_neg he] at h; exact .tail _ (pathC_mem h)
theorem pathC_append {x : Str} {p : List Str} {A : Came} : ∀ {C : Came}, pathC C x = some p → pathC (C ++ A) x = some p
  | [], h => nomatch h
  | e :: r, h => by
    rw [List.cons_append]
    unfold pathC at h ⊢
    by_cases he : e.1 = x
    · rw [if_pos he] at h ⊢; exact h
    · rw [if_neg he] at h ⊢; exact pathC_append h
def adds (p : List Str) (xs : List Str) : Came := xs.map fun o => (o, p ++ [o])
theorem keys_adds (p xs : List Str) : keysC (adds p xs) = xs := by unfold keysC adds; rw [List.map_map]; exact List.map_id xs
theorem keys_append (C A : Came) : keysC (C ++ A) = keysC C ++ keysC A := List.map_append ..
/-- a row walked -/
noncomputable def rowC (E : List (Str × Str)) : List Str → Came → List Str → Came × List Str
  | [], C, L => (C, L)
  | h :: r, C, L => rowC E r (C ++ adds ((pathC C h).getD []) (news h (keysC C) E)) (L ++ news h (keysC C) E)
/-- row after row -/
noncomputable def levels (E : List (Str × Str)) : Nat → Came → List Str → Came
  | 0, C, _ => C
  | m + 1, C, R => if R = [] then C else levels E m (rowC E R C []).1 (rowC E R C []).2
/-- what a walk keeps true -/
structure Good (E : List (Str × Str)) (low : Str) (C : Came) : Prop where
  nd : (keysC C).Nodup
  sub : ∀ x ∈ keysC C, x ∈ low :: E.map (·.2)
  hd : ∀ e ∈ C, e.2.head? = some low
  lst : ∀ e ∈ C, e.2.getLast? = some e.1
  lk : ∀ e ∈ C, ∀ q ∈ e.2.zip e.2.tail, q ∈ E
  len : ∀ e ∈ C, e.2.length ≤ C.length
theorem Good.size {E : List (Str × Str)} {low : Str} {C : Came} (g : Good E low C) : C.length ≤ E.length + 1 := by
  have h := nodup_len g.nd g.sub
  simpa [keysC] using h
theorem link_snoc {E : List (Str × Str)} {h o : Str} (ho : (h, o) ∈ E) : ∀ {p : List Str}, p.getLast? = some h → (∀ q ∈ p.zip p.tail, q ∈ E) → ∀ q ∈ (p ++ [o]).zip (p ++ [o]).tail, q ∈ E
  | [], hl, _ => nomatch hl
  | [a], hl, _ => by
    have : a = h := by simpa using hl
    subst this
    intro q hq
    have : q = (a, o) := by simpa using hq
    rw [this]; exact ho
  | a :: b :: r, hl, hk => by
    have ih := link_snoc (p := b :: r) ho (by simpa [List.getLast?_cons_cons] using hl) fun q hq => hk q (by
      show q ∈ (a, b) :: (b :: r).zip r
      exact .tail _ hq)
    intro q hq
    have hq' : q ∈ (a, b) :: ((b :: r) ++ [o]).zip (r ++ [o]) := hq
    rcases List.mem_cons.mp hq' with e | e
    · rw [e]; exact hk _ (show (a, b) ∈ (a, b) :: (b :: r).zip r from .head _)
    · exact ih q e
theorem Good.step {E : List (Str × Str)} {low h : Str} {C : Came} {p : List Str} (g : Good E low C) (hp : pathC C h = some p) : Good E low (C ++ adds p (news h (keysC C) E)) := by
  have hm := pathC_mem hp
  have h0 : ∀ e ∈ C ++ adds p (news h (keysC C) E), e ∈ C ∨ ∃ o, o ∈ news h (keysC C) E ∧ e = (o, p ++ [o]) := by
    intro e he
    rcases List.mem_append.mp he with a | a
    · exact .inl a
    · obtain ⟨o, ho, e'⟩ := List.mem_map.mp a
      exact .inr ⟨o, ho, e'.symm⟩
  have sz : (C ++ adds p (news h (keysC C) E)).length = C.length + (news h (keysC C) E).length := by simp [adds]
  refine ⟨?_, ?_, ?_, ?_, ?_, ?_⟩
  · rw [keys_append, keys_adds]; exact news_nodup h E _ g.nd
  · intro x hx
    rw [keys_append, keys_adds] at hx
    rcases List.mem_append.mp hx with a | a
    · exact g.sub x a
    · exact .tail _ (List.mem_map.mpr ⟨_, (news_sub h E _ x a).1, rfl⟩)
  · intro e he
    rcases h0 e he with a | ⟨o, ho, rfl⟩
    · exact g.hd e a
    · have := g.hd _ hm
      cases p with
      | nil => simp at this
      | cons a r => simpa using this
  · intro e he
    rcases h0 e he with a | ⟨o, ho, rfl⟩
    · exact g.lst e a
    · simp
  · intro e he
    rcases h0 e he with a | ⟨o, ho, rfl⟩
    · exact g.lk e a
    · exact link_snoc (news_sub h E _ o ho).1 (g.lst _ hm) (g.lk _ hm)
  · intro e he
    rw [sz]
    rcases h0 e he with a | ⟨o, ho, rfl⟩
    · have := g.len e a; omega
    · have l := g.len _ hm
      have : 0 < (news h (keysC C) E).length := List.length_pos_of_mem ho
      simp at l ⊢
      omega
/-- a row's walk: what it keeps and adds -/
theorem rowC_good {E : List (Str × Str)} {low : Str} : ∀ (R : List Str) (C : Came) (L : List Str), Good E low C → (∀ h ∈ R, h ∈ keysC C) →
    Good E low (rowC E R C L).1 ∧ ∃ A ns, (rowC E R C L).1 = C ++ A ∧ (rowC E R C L).2 = L ++ ns ∧ keysC A = ns
  | [], C, L, g, _ => ⟨g, [], [], by simp [rowC], by simp [rowC], rfl⟩
  | h :: r, C, L, g, hR => by
    obtain ⟨p, hp⟩ := pathC_some (hR h (.head _))
    unfold rowC
    rw [hp, Option.getD_some]
    obtain ⟨g1, A, ns, e1, e2, e3⟩ := rowC_good r (C ++ adds p (news h (keysC C) E)) (L ++ news h (keysC C) E) (g.step hp) fun x hx => by
      rw [keys_append]; exact List.mem_append.mpr (.inl (hR x (.tail _ hx)))
    refine ⟨g1, adds p (news h (keysC C) E) ++ A, news h (keysC C) E ++ ns, ?_, ?_, ?_⟩
    · rw [e1, List.append_assoc]
    · rw [e2, List.append_assoc]
    · rw [keys_append, keys_adds, e3]
theorem levels_good {E : List (Str × Str)} {low : Str} : ∀ (m : Nat) (C : Came) (R : List Str), Good E low C → (∀ h ∈ R, h ∈ keysC C) →
    Good E low (levels E m C R) ∧ ∃ A, levels E m C R = C ++ A
  | 0, C, R, g, _ => ⟨g, [], by simp [levels]⟩
  | m + 1, C, R, g, hR => by
    unfold levels
    by_cases h : R = []
    · rw [if_pos h]; exact ⟨g, [], by simp⟩
    · rw [if_neg h]
      obtain ⟨g1, A, ns, e1, e2, e3⟩ := rowC_good R C [] g hR
      obtain ⟨g2, A2, e4⟩ := levels_good m (rowC E R C []).1 (rowC E R C []).2 g1 fun x hx => by
        rw [e1, keys_append, e3]; rw [e2] at hx; exact List.mem_append.mpr (.inr (by simpa using hx))
      exact ⟨g2, A ++ A2, by rw [e4, e1, List.append_assoc]⟩
def startC (low : Str) : Came := [(low, [low])]
theorem start_good (E : List (Str × Str)) (low : Str) : Good E low (startC low) :=
  ⟨by simp [startC, keysC], by simp [startC, keysC], by simp [startC], by simp [startC], by simp [startC], by simp [startC]⟩
noncomputable def finC (E : List (Str × Str)) (low : Str) : Came := levels E (E.length + 2) (startC low) [low]
theorem fin_good (E : List (Str × Str)) (low : Str) : Good E low (finC E low) := (levels_good _ _ _ (start_good E low) (by simp [startC, keysC])).1
end W
set_option Elab.async false
set_option linter.all false
set_option maxRecDepth 100000
set_option maxHeartbeats 1000000
/-! MCH: dicts of ways. -/
namespace W
open PySem PySem.Spec PyProof.Rows L2 PL
def dv (g : List Str → D) (C : Came) : List (D × D) := C.map fun e => (.str e.1, g e.2)
theorem dv_len (g : List Str → D) (C : Came) : (dv g C).length = C.length := by simp [dv]
theorem dv_mark (g : List Str → D) (C : Came) : markT (dv g C) = false := by cases C <;> rfl
theorem dv_fit (g : List Str → D) (C : Came) (b : Str) : keyFit (dv g C) (.str b) = true := by unfold keyFit; rw [dv_mark, if_neg (by decide)]; rfl
theorem dv_find (g : List Str → D) (b : Str) : ∀ C : Came, dFind (dv g C) (.str b) = (pathC C b).map g
  | [] => rfl
  | e :: r => by
    show dFind ((.str e.1, g e.2) :: dv g r) (.str b) = _
    unfold dFind pathC
    by_cases h : e.1 = b
    · rw [if_pos h, if_pos (by rw [h])]; rfl
    · rw [if_neg h, if_neg (fun z => h (by injection z)), dv_find g b r]
theorem dv_set {g : List Str → D} {b : Str} {C : Came} {p : List Str} {d : D} (h : pathC C b = none) (hd : d = g p) : dSet (dv g C) (.str b) d = dv g (C ++ [(b, p)]) := by
  have h' := pathC_none.mp h
  unfold dSet
  rw [if_neg]
  · rw [hd]; simp [dv]
  · intro z
    obtain ⟨q, hq, e⟩ := List.any_eq_true.mp z
    obtain ⟨e1, he, rfl⟩ := List.mem_map.mp hq
    have := of_decide_eq_true e
    injection this with t
    exact h' (List.mem_map.mpr ⟨e1, he, t⟩)
/-- far -/
def gF (p : List Str) : D := .int ((p.length : Int) - 1)
def gC (p : List Str) : D := .tuple (sD p)
theorem keys_snoc (C : Came) (b : Str) (p : List Str) : keysC (C ++ [(b, p)]) = keysC C ++ [b] := List.map_append ..
theorem keysC_len (C : Came) : (keysC C).length = C.length := by simp [keysC]
end W
set_option Elab.async false
set_option linter.all false
set_option maxRecDepth 100000
set_option maxHeartbeats 1000000
/-! M05d: chain. -/
namespace W
open PySem PySem.Spec PyProof.Rows L2 PL
def envC (q lo hi : D) (C : Came) (R L : List Str) (o6 o7 o8 : Option D) : PL.Env := [some q, some lo, some hi, some (.dict (dv gC C)), some (.list (sD R)), some (.list (sD L)), o6, o7, o8]
theorem chain_inner (q lo hi : D) (R : List Str) (here : Str) (p : List Str) (hpl : p.length ≤ 900) (N : Nat) (hN : N ≤ 400) : ∀ (E : List (Str × Str)) (C : Came) (L : List Str), pathC C here = some p → (keysC C ++ news here (keysC C) E).length ≤ N → (L ++ news here (keysC C) E).length ≤ N →
    forGo (bTup (bCons (bName 7) (bCons (bName 8) bNil))) lb1_chain (E.map pD) (envC q lo hi C R L (some (.str here)) none none) = .ok (.nx (envC q lo hi (C ++ adds p (news here (keysC C) E)) R (L ++ news here (keysC C) E) (some (.str here)) none none))
  | [], C, L, _, _, _ => by simp [news, adds]
  | (a, b) :: r, C, L, hp, h1, h2 => by
    rw [List.map_cons, v_forS]
    have e0 : (bTup (bCons (bName 7) (bCons (bName 8) bNil)) (pD (a, b)) (envC q lo hi C R L (some (.str here)) none none)).calm = .ok (envC q lo hi C R L (some (.str here)) (some (.str a)) (some (.str b))) := rfl
    rw [e0, PL.R.bind_ok]
    have hk : ∀ xs ys : List Str, (xs ++ ys).length ≤ N → xs.length < sizeLine := fun xs ys h => small (by rw [List.length_append] at h; omega)
    by_cases hc : a = here ∧ b ∉ keysC C
    · have en : news here (keysC C) ((a, b) :: r) = b :: news here (keysC C ++ [b]) r := by rw [news, if_pos hc]
      rw [en] at h1 h2 ⊢
      have hb := pathC_none.mpr hc.2
      have hs : C.length < sizeLine := by rw [← keysC_len]; exact hk _ _ h1
      have hd : PyData.tuple (sD p ++ [.str b]) = gC (p ++ [b]) := by simp [gC]
      have hz : p.length + 1 ≤ sizeLine := by have := small1000 (n := p.length + 1) (by omega); omega
      have e1 : lb1_chain (envC q lo hi C R L (some (.str here)) (some (.str a)) (some (.str b))) = .ok (.nx (envC q lo hi (C ++ [(b, p ++ [b])]) R (L ++ [b]) (some (.str here)) none none)) := by
        have ds := dv_set hb hd
        simp [lb1_chain, envC, hc.1, dTruth, dNotInD, dGet, dAdd, dv_fit, dv_find, hb, hp, dv_len, hs, hk _ _ h2, show ∀ l, gC l = PyData.tuple (sD l) from fun _ => rfl, hz, show dSet (dv gC C) (.str b) (.tuple (sD p ++ [.str b])) = _ from ds]
      rw [e1, PL.R.bind_ok]
      show forGo _ lb1_chain (r.map pD) _ = _
      rw [chain_inner q lo hi R here p hpl N hN r (C ++ [(b, p ++ [b])]) (L ++ [b]) (pathC_append hp) (by rw [keys_snoc]; simpa using h1) (by rw [keys_snoc]; simpa using h2)]
      rw [keys_snoc]
      simp [adds]
    · have en : news here (keysC C) ((a, b) :: r) = news here (keysC C) r := by rw [news, if_neg hc]
      rw [en] at h1 h2 ⊢
      have e1 : lb1_chain (envC q lo hi C R L (some (.str here)) (some (.str a)) (some (.str b))) = .ok (.nx (envC q lo hi C R L (some (.str here)) none none)) := by
        by_cases ha : a = here
        · have hb : b ∈ keysC C := Classical.byContradiction fun z => hc ⟨ha, z⟩
          obtain ⟨pb, hb'⟩ := pathC_some hb
          simp [lb1_chain, envC, ha, dTruth, dNotInD, dv_fit, dv_find, hb']
        · simp [lb1_chain, envC, ha, dTruth]
      rw [e1, PL.R.bind_ok]
      exact chain_inner q lo hi R here p hpl N hN r C L hp h1 h2
/-- a row: either the word is met, or the row is walked -/
theorem chain_row {ws : List Str} {E : List (Str × Str)} {x y : D} (hE : E.length ≤ 200) (lo : D) (low high : Str) (R : List Str) : ∀ (rs : List Str) (C : Came) (L : List Str), Good E low C → (∀ h ∈ rs, h ∈ keysC C) → L.length ≤ C.length →
    forGo (bName 6) lb2_chain (sD rs) (envC (bookD ws E x y) lo (.str high) C R L none none none) = .ok (if high ∈ rs then .rt (gC ((pathC C high).getD [])) else .nx (envC (bookD ws E x y) lo (.str high) (rowC E rs C L).1 R (rowC E rs C L).2 none none none))
  | [], C, L, _, _, _ => rfl
  | h :: r, C, L, g, hR, hL => by
    obtain ⟨p, hp⟩ := pathC_some (hR h (.head _))
    have g1 := g.step hp
    have sz := g1.size
    have sz' : (C ++ adds p (news h (keysC C) E)).length = C.length + (news h (keysC C) E).length := by simp [adds]
    have pl : p.length ≤ 900 := by have h1 := g.len _ (pathC_mem hp); have h2 := g.size; simp at h1; omega
    rw [show sD (h :: r) = .str h :: sD r from rfl, v_forS]
    have e0 : (bName 6 (.str h) (envC (bookD ws E x y) lo (.str high) C R L none none none)).calm = .ok (envC (bookD ws E x y) lo (.str high) C R L (some (.str h)) none none) := rfl
    rw [e0, PL.R.bind_ok]
    by_cases hh : h = high
    · subst hh
      rw [if_pos (List.mem_cons_self ..)]
      have body : lb2_chain (envC (bookD ws E x y) lo (.str h) C R L (some (.str h)) none none) = .ok (.rt (gC p)) := by
        unfold lb2_chain
        refine st_ifT (by simp [envC, dTruth]) ?_
        refine st_rt (st_ret ?_)
        simp [envC, dGet, dv_fit, dv_find, hp]
      rw [body, PL.R.bind_ok, hp]
      rfl
    · have inner := chain_inner (bookD ws E x y) lo (.str high) R h p pl 400 (by omega) E C L hp (by rw [List.length_append, keysC_len]; omega) (by rw [List.length_append]; omega)
      have body : lb2_chain (envC (bookD ws E x y) lo (.str high) C R L (some (.str h)) none none) = .ok (.nx (envC (bookD ws E x y) lo (.str high) (C ++ adds p (news h (keysC C) E)) R (L ++ news h (keysC C) E) none none none)) := by
        unfold lb2_chain
        refine st_ifF (by simp [envC, dTruth, hh]) ?_
        refine st_next ?_
        refine st_for (ds := E.map pD) (by simp only [v_iSeq, envC, v_f2, v_fC, v_fVar0, PL.R.bind_ok, book1, itemsOf]) inner ?_
        rfl
      rw [body, PL.R.bind_ok]
      show forGo _ lb2_chain (sD r) _ = _
      rw [chain_row hE lo low high R r (C ++ adds p (news h (keysC C) E)) (L ++ news h (keysC C) E) g1 (fun x hx => by
        rw [keys_append]; exact List.mem_append.mpr (.inl (hR x (.tail _ hx)))) (by rw [sz', List.length_append]; omega)]
      rw [show rowC E (h :: r) C L = rowC E r (C ++ adds p (news h (keysC C) E)) (L ++ news h (keysC C) E) by rw [rowC, hp, Option.getD_some]]
      by_cases hm : high ∈ r
      · obtain ⟨ph, hph⟩ := pathC_some (hR high (.tail _ hm))
        rw [if_pos hm, if_pos (.tail _ hm), hph, pathC_append hph]
      · rw [if_neg hm, if_neg (fun z => by rcases List.mem_cons.mp z with z | z; exact hh z.symm; exact hm z)]
end W
set_option Elab.async false
set_option linter.all false
set_option maxRecDepth 100000
set_option maxHeartbeats 1000000
/-! M05e: chain. -/
namespace W
open PySem PySem.Spec PyProof.Rows L2 PL
def envH (q lo hi : D) (C : Came) (R : List Str) : PL.Env := [some q, some lo, some hi, some (.dict (dv gC C)), some (.list (sD R)), none, none, none, none]
theorem chain_cond (q lo hi : D) (C : Came) (R : List Str) : fTru (f2 dNe (fVar 4) (fLst fNil)) (envH q lo hi C R) = .ok (!decide (R = [])) := by
  have := dNe_strs R []
  simp [envH, dTruth, show dNe (.list (sD R)) (.list []) = .ok (.bool (!decide (R = []))) from this]
theorem chain_while {ws : List Str} {E : List (Str × Str)} {x y : D} (hE : E.length ≤ 200) (lo : D) (low high : Str) : ∀ (m : Nat) (C : Came) (R : List Str), Good E low C → (∀ h ∈ R, h ∈ keysC C) → (high ∈ keysC C → high ∈ R) → (R = [] → 1 ≤ m) → (R ≠ [] → E.length + 3 ≤ m + C.length) →
    whileGo (fTru (f2 dNe (fVar 4) (fLst fNil))) lb3_chain m (envH (bookD ws E x y) lo (.str high) C R) = .ok (if high ∈ keysC (levels E m C R) then .rt (gC ((pathC (levels E m C R) high).getD [])) else .nx (envH (bookD ws E x y) lo (.str high) (levels E m C R) []))
  | 0, C, R, g, _, _, h1, h2 => by
    have := g.size
    by_cases h : R = []
    · have := h1 h; omega
    · have := h2 h; omega
  | m + 1, C, R, g, hR, hi, h1, h2 => by
    unfold whileGo
    rw [chain_cond, PL.R.bind_ok]
    by_cases h : R = []
    · subst h
      rw [show levels E (m + 1) C [] = C by rw [levels, if_pos rfl], if_neg (fun z => nomatch hi z)]
      simp
    · have row := chain_row (ws := ws) (x := x) (y := y) hE lo low high R R C [] g hR (Nat.zero_le _)
      simp only [decide_eq_false h, Bool.not_false, if_true]
      by_cases hm : high ∈ R
      · rw [if_pos hm] at row
        obtain ⟨p, hp⟩ := pathC_some (hR high hm)
        obtain ⟨_, A, eA⟩ := levels_good (m + 1) C R g hR
        have body : lb3_chain (envH (bookD ws E x y) lo (.str high) C R) = .ok (.rt (gC ((pathC C high).getD []))) := by
          unfold lb3_chain
          refine st_set (d := .list []) rfl ?_
          refine st_rt ?_
          rw [v_sFor]
          exact row
        rw [body, PL.R.bind_ok, eA, pathC_append hp, hp, if_pos (by rw [keys_append]; exact List.mem_append.mpr (.inl (hR high hm)))]
      · rw [if_neg hm] at row
        obtain ⟨g1, A, ns, e1, e2, e3⟩ := rowC_good R C [] g hR
        have body : lb3_chain (envH (bookD ws E x y) lo (.str high) C R) = .ok (.nx (envH (bookD ws E x y) lo (.str high) (rowC E R C []).1 (rowC E R C []).2)) := by
          unfold lb3_chain
          refine st_set (d := .list []) rfl ?_
          refine st_for (ds := sD R) rfl row ?_
          rfl
        have lenA : A.length = ns.length := by rw [← e3, keysC_len]
        rw [body, PL.R.bind_ok, show levels E (m + 1) C R = levels E m (rowC E R C []).1 (rowC E R C []).2 by rw [levels, if_neg h]]
        refine chain_while hE lo low high m _ _ g1 (fun x hx => ?_) (fun hz => ?_) (fun hz => ?_) fun hz => ?_
        · rw [e1, keys_append, e3]; rw [e2] at hx; exact List.mem_append.mpr (.inr (by simpa using hx))
        · rw [e1, keys_append, e3] at hz
          rw [e2]
          rcases List.mem_append.mp hz with hz | hz
          · exact absurd (hi hz) hm
          · simpa using hz
        · have := h2 h; have := g.size; omega
        · have := h2 h
          have : 0 < ns.length := List.length_pos_iff.mpr fun z => hz (by rw [e2, z]; rfl)
          rw [e1, List.length_append]
          omega
theorem chain_is (ws : List Str) {E : List (Str × Str)} (x y : D) (hE : E.length ≤ 200) (low high : Str) : f_chain [bookD ws E x y, .str low, .str high] = .ok (match pathC (finC E low) high with | some p => gC p | none => .none) := by
  have w := sWhile_eq (chain_while (ws := ws) (x := x) (y := y) hE (.str low) low high (E.length + 2) (startC low) [low] (start_good E low) (by simp [startC, keysC]) (by simp [startC, keysC]) (by simp) (by simp [startC])) (by simp)
  have e : levels E (E.length + 2) (startC low) [low] = finC E low := rfl
  rw [e] at w
  unfold f_chain
  refine out_rt ?_
  unfold g_chain
  refine st_set (d := .dict (dv gC (startC low))) rfl ?_
  refine st_set (d := .list (sD [low])) rfl ?_
  cases hp : pathC (finC E low) high with
  | none =>
    rw [if_neg (pathC_none.mp hp)] at w
    refine st_nx w ?_
    rfl
  | some p =>
    have hk : high ∈ keysC (finC E low) := Classical.byContradiction fun z => by rw [pathC_none.mpr z] at hp; cases hp
    rw [if_pos hk, hp] at w
    exact st_rt w
end W
set_option Elab.async false
set_option linter.all false
set_option maxRecDepth 100000
set_option maxHeartbeats 1000000
/-! MCR: a walk upwards comes to all that is reached. -/
namespace W
open PySem PySem.Spec PyProof.Rows L2 PL
section
variable {E : List (Str × Str)} {low : Str}
theorem rowC_exp : ∀ (R : List Str) (C : Came) (L : List Str), Good E low C → (∀ h ∈ R, h ∈ keysC C) → ∀ h ∈ R, ∀ b, (h, b) ∈ E → b ∈ keysC (rowC E R C L).1
  | [], _, _, _, _, h, hh => absurd hh List.not_mem_nil
  | g0 :: r, C, L, g, hR, h, hh => fun b hb => by
    obtain ⟨p, hp⟩ := pathC_some (hR g0 (.head _))
    have hR' : ∀ x ∈ r, x ∈ keysC (C ++ adds p (news g0 (keysC C) E)) := fun x hx => by
      rw [keys_append]; exact List.mem_append.mpr (.inl (hR x (.tail _ hx)))
    unfold rowC
    rw [hp, Option.getD_some]
    obtain ⟨_, A, ns, e1, _, _⟩ := rowC_good r (C ++ adds p (news g0 (keysC C) E)) (L ++ news g0 (keysC C) E) (g.step hp) hR'
    rcases List.mem_cons.mp hh with e | hr
    · rw [e1, keys_append, keys_append, keys_adds]
      exact List.mem_append_left _ (news_all g0 E (keysC C) b (e ▸ hb))
    · exact rowC_exp r _ _ (g.step hp) hR' h hr b hb
theorem keys_len' (C : Came) : (keysC C).length = C.length := by simp [keysC]
theorem levels_exp : ∀ (m : Nat) (C : Came) (R : List Str), Good E low C → (∀ h ∈ R, h ∈ keysC C) → (∀ h ∈ keysC C, h ∉ R → ∀ b, (h, b) ∈ E → b ∈ keysC C) → (R = [] ∨ E.length + 3 ≤ m + C.length) →
    ∀ h ∈ keysC (levels E m C R), ∀ b, (h, b) ∈ E → b ∈ keysC (levels E m C R)
  | 0, C, R, g, _, hx, hm => by
    have := g.size
    have hr : R = [] := hm.resolve_right (by omega)
    unfold levels
    exact fun h hh => hx h hh (by rw [hr]; exact List.not_mem_nil)
  | m + 1, C, R, g, hR, hx, hm => by
    unfold levels
    by_cases hr : R = []
    · rw [if_pos hr]
      exact fun h hh => hx h hh (by rw [hr]; exact List.not_mem_nil)
    · rw [if_neg hr]
      obtain ⟨g1, A, ns, e1, e2, e3⟩ := rowC_good R C [] g hR
      have ex := rowC_exp R C [] g hR
      rw [e1] at g1 ex
      rw [e1, e2, List.nil_append]
      have hm := hm.resolve_left hr
      refine levels_exp m (C ++ A) ns g1 (fun x hx => by rw [keys_append, e3]; exact List.mem_append_right _ hx) (fun h hh hn b hb => ?_) ?_
      · rw [keys_append, e3] at hh
        have hC := (List.mem_append.mp hh).resolve_right hn
        by_cases hR2 : h ∈ R
        · exact ex h hR2 b hb
        · rw [keys_append]; exact List.mem_append_left _ (hx h hC hR2 b hb)
      · by_cases hn : ns = []
        · exact .inl hn
        · right
          have l1 : A.length = ns.length := by rw [← e3, keys_len']
          have := List.length_pos_iff.mpr hn
          rw [List.length_append]; omega
theorem links_reach : ∀ {p : List Str} {a b : Str}, p.head? = some a → p.getLast? = some b → (∀ q ∈ p.zip p.tail, q ∈ E) → b = a ∨ Reach E a b
  | [], _, _, h, _, _ => by cases h
  | [x], a, b, h1, h2, _ => by
    cases h1; cases h2; exact .inl rfl
  | x :: y :: r, a, b, h1, h2, h3 => by
    cases h1
    have s : (x, y) ∈ E := h3 (x, y) (by simp)
    have ih := links_reach (p := y :: r) (a := y) (b := b) rfl (by simpa using h2) fun q hq => h3 q (by simp at hq ⊢; exact .inr hq)
    right
    rcases ih with e | e
    · rw [e]; exact .one s
    · exact .more s e
theorem fin_mem {x : Str} : x ∈ keysC (finC E low) ↔ x = low ∨ Reach E low x := by
  have g := fin_good E low
  constructor
  · intro h
    obtain ⟨p, hp⟩ := pathC_some h
    have m := pathC_mem hp
    exact links_reach (g.hd _ m) (g.lst _ m) (g.lk _ m)
  · have l0 : low ∈ keysC (finC E low) := by
      obtain ⟨A, e⟩ := (levels_good (E.length + 2) (startC low) [low] (start_good E low) (by simp [startC, keysC])).2
      show low ∈ keysC (levels E (E.length + 2) (startC low) [low])
      rw [e, keys_append]
      exact List.mem_append_left _ (by simp [startC, keysC])
    have cl := levels_exp (E.length + 2) (startC low) [low] (start_good E low) (by simp [startC, keysC]) (fun h hh hn => absurd hh (by
      have : h ∉ ([low] : List Str) := hn
      simpa [startC, keysC] using this)) (.inr (by simp [startC]))
    rintro (e | e)
    · rw [e]; exact l0
    · have all : ∀ {a b : Str}, Reach E a b → a ∈ keysC (finC E low) → b ∈ keysC (finC E low) := fun {a b} r => by
        induction r with
        | one h => exact fun ha => cl _ ha _ h
        | more h _ ih => exact fun ha => ih (cl _ ha _ h)
      exact all e l0
end
end W
set_option Elab.async false
set_option linter.all false
set_option maxRecDepth 100000
set_option maxHeartbeats 1000000
/-! MRS: reason. -/
namespace W
open PySem PySem.Spec PyProof.Rows L2 PL
/-- ways upward to a word -/
noncomputable def ways (E : List (Str × Str)) (w : Str) (T : List Str) : List (List Str) := T.filterMap fun t => pathC (finC E t) w
def hdD : List (List Str) → D
  | [] => .none
  | p :: _ => gC p
theorem isNot_none (d : D) : dIsNot d .none = .ok (.bool (match d with | .none => false | _ => true)) := by cases d <;> rfl
theorem is_none (d : D) : dIs d .none = .ok (.bool (match d with | .none => true | _ => false)) := by cases d <;> rfl
noncomputable def wayD (E : List (Str × Str)) (w t : Str) : D := match pathC (finC E t) w with | some p => gC p | none => .none
theorem ways_map (E : List (Str × Str)) (w : Str) : ∀ T : List Str, (T.filter fun t => (pathC (finC E t) w).isSome).map (wayD E w) = (ways E w T).map gC
  | [] => rfl
  | t :: r => by
    have ih := ways_map E w r
    unfold ways at ih ⊢
    cases h : pathC (finC E t) w with
    | none =>
      rw [List.filter_cons_of_neg (by rw [h]; decide), List.filterMap_cons_none (f := fun t => pathC (finC E t) w) h]; exact ih
    | some p =>
      rw [List.filter_cons_of_pos (by rw [h]; rfl), List.filterMap_cons_some (f := fun t => pathC (finC E t) w) h, List.map_cons, List.map_cons, ih]
      congr 1
      unfold wayD; rw [h]
theorem ways_len (E : List (Str × Str)) (w : Str) (T : List Str) : (ways E w T).length ≤ T.length := List.length_filterMap_le _ _
theorem reason_is {ws : List Str} {E N O : List (Str × Str)} (nd : (O.map (·.1)).Nodup) (hO : O.length ≤ 900) (hE : E.length ≤ 200) {T : List Str} (hT : T.length ≤ 100) {z w : Str} (hz : wordOf ws O z = some w) : f_reason [formT ws E N O, tT T, .str z] = .ok (hdD (ways E w T)) := by
  unfold f_reason
  refine out_rt ?_
  unfold g_reason
  have st : startE 6 [formT ws E N O, tT T, .str z] = [some (formT ws E N O), some (tT T), some (.str z), none, none, none] := rfl
  rw [st]
  have wo := word_of_is ws (E := E) (N := N) nd hO z
  rw [hz] at wo
  have wo' : f_word_of [formT ws E N O, .str z] = .ok (.str w) := wo
  have ch : ∀ t : Str, f_chain [formT ws E N O, .str t, .str w] = .ok (wayD E w t) := fun t => chain_is ws (.tuple (N.map pD)) (.tuple (O.map pD)) hE t w
  have c1 : fLc [4] (iSeq (fVar 1)) (bName 4) (tYes') (ce1_reason) [some (formT ws E N O), some (tT T), some (.str z), none, none, none] = .ok (.list (T.map (wayD E w))) := by
    refine fLc_map (enc := PyData.str) (τ1 := fun t => [some (formT ws E N O), some (tT T), some (.str z), none, some (.str t), none]) T (wayD E w) rfl (fun _ => rfl) fun t _ => ?_
    simp only [ce1_reason, v_fVar0, v_fVarS, v_fC, v_f1, v_f2, v_fTru, v_tNotB, v_fNot, v_fNil, v_fCons, v_fTup, v_fLst, v_fCall, v_fSl, v_oNone, v_oSome, v_iSeq, v_iRange, PL.R.bind_ok, PL.R.calm_ok, dTruth_bool, wo', ch]
  refine st_set c1 (st_ret ?_)
  simp only [List.set_cons_succ, List.set_cons_zero]
  have c2 : fLc [5] (iSeq (fVar 3)) (bName 5) (ct1_reason) (ce2_reason) [some (formT ws E N O), some (tT T), some (.str z), some (.list (T.map (wayD E w))), none, none] = .ok (.list ((ways E w T).map gC)) := by
    rw [← ways_map]
    refine fLc_run (enc := wayD E w) (τ1 := fun t => [some (formT ws E N O), some (tT T), some (.str z), some (.list (T.map (wayD E w))), none, some (wayD E w t)]) T _ (wayD E w) rfl (fun _ => rfl) (fun t _ => ?_) fun t _ _ => ?_
    · simp only [ct1_reason, v_fVar0, v_fVarS, v_fC, v_f1, v_f2, v_fTru, v_tNotB, v_fNot, v_fNil, v_fCons, v_fTup, v_fLst, v_fCall, v_fSl, v_oNone, v_oSome, v_iSeq, v_iRange, PL.R.bind_ok, PL.R.calm_ok, dTruth_bool, isNot_none]
      unfold wayD
      cases pathC (finC E t) w <;> rfl
    · simp only [ce2_reason, v_fVar0, v_fVarS, v_fC, v_f1, v_f2, v_fTru, v_tNotB, v_fNot, v_fNil, v_fCons, v_fTup, v_fLst, v_fCall, v_fSl, v_oNone, v_oSome, v_iSeq, v_iRange, PL.R.bind_ok, PL.R.calm_ok, dTruth_bool]
  have := (addLL ((ways E w T).map gC) [.none] (by have := ways_len E w T; simp; omega)).1
  have a : f2 dAdd (fLc [5] (iSeq (fVar 3)) (bName 5) (ct1_reason) (ce2_reason)) (fLst (fCons (fC .none) (fNil))) [some (formT ws E N O), some (tT T), some (.str z), some (.list (T.map (wayD E w))), none, none] = .ok (.list ((ways E w T).map gC ++ [.none])) := by
    rw [v_f2, c2]
    simp only [v_fVar0, v_fVarS, v_fC, v_f1, v_f2, v_fTru, v_tNotB, v_fNot, v_fNil, v_fCons, v_fTup, v_fLst, v_fCall, v_fSl, v_oNone, v_oSome, v_iSeq, v_iRange, PL.R.bind_ok, PL.R.calm_ok, dTruth_bool, this]
  rw [v_f2, a]
  simp only [v_fVar0, v_fVarS, v_fC, v_f1, v_f2, v_fTru, v_tNotB, v_fNot, v_fNil, v_fCons, v_fTup, v_fLst, v_fCall, v_fSl, v_oNone, v_oSome, v_iSeq, v_iRange, PL.R.bind_ok, PL.R.calm_ok, dTruth_bool]
  cases ways E w T with
  | nil => exact itl0 _ _
  | cons p r => exact itl0 _ _
/-- a way there is just where one of the tags is the word, or below it -/
theorem ways_nil {E : List (Str × Str)} {w : Str} {T : List Str} : ways E w T = [] ↔ ∀ t ∈ T, ¬ (w = t ∨ Reach E t w) := by
  unfold ways
  rw [List.filterMap_eq_nil_iff]
  constructor
  · intro h t ht z
    have := pathC_none.mp (h t ht)
    exact this (fin_mem.mpr z)
  · intro h t ht
    exact pathC_none.mpr fun z => h t ht (fin_mem.mp z)
theorem hd_none {P : List (List Str)} : hdD P = .none ↔ P = [] := by
  cases P with
  | nil => simp [hdD]
  | cons p r => simp [hdD, gC]
end W
set_option Elab.async false
set_option linter.all false
set_option maxRecDepth 100000
set_option maxHeartbeats 1000000
/-! MLT: lean_tags, are_lean. -/
namespace W
open PySem PySem.Spec PyProof.Rows L2 PL
/-- one key more -/
noncomputable def putS (K : List Str) (b : Str) : List Str := open Classical in if b ∈ K then K else K ++ [b]
theorem dk_put (K : List Str) (b : Str) : dSet (dk K) (.str b) (.bool true) = dk (putS K b) := by
  unfold putS
  by_cases h : b ∈ K
  · rw [if_pos h]
    unfold dSet
    have hh : (dk K).any (fun p => decide (p.1 = PyData.str b)) = true := List.any_eq_true.mpr ⟨(PyData.str b, PyData.bool true), List.mem_map.mpr ⟨b, h, rfl⟩, decide_eq_true rfl⟩
    rw [if_pos hh]
    unfold dk
    rw [List.map_map]
    refine List.map_congr_left fun k _ => ?_
    show (if PyData.str k = PyData.str b then (PyData.str k, PyData.bool true) else (PyData.str k, PyData.bool true)) = _
    split <;> rfl
  · rw [if_neg h, dk_set h]
theorem mem_put {K : List Str} {b x : Str} : x ∈ putS K b ↔ x ∈ K ∨ x = b := by
  unfold putS
  by_cases h : b ∈ K
  · rw [if_pos h]
    exact ⟨.inl, fun z => z.elim id fun e => e ▸ h⟩
  · rw [if_neg h]; simp
theorem put_len (K : List Str) (b : Str) : (putS K b).length ≤ K.length + 1 := by
  unfold putS
  split <;> simp
theorem mem_puts {x : Str} : ∀ {xs K : List Str}, x ∈ xs.foldl putS K ↔ x ∈ K ∨ x ∈ xs
  | [], K => by simp
  | b :: r, K => by
    rw [List.foldl_cons, mem_puts, mem_put]
    simp [or_assoc]
theorem puts_len : ∀ (xs K : List Str), (xs.foldl putS K).length ≤ K.length + xs.length
  | [], K => by simp
  | b :: r, K => by
    rw [List.foldl_cons, List.length_cons]
    have := puts_len r (putS K b)
    have := put_len K b
    omega
theorem dc_puts {b : D → PL.Env → PL.R PL.Env} {fk fv : PL.Env → PL.R D} {τ0 : PL.Env} {τ1 : Str → PL.Env} (hb : ∀ z, b (.str z) τ0 = .ok (τ1 z)) (hk : ∀ z, fk (τ1 z) = .ok (.str z)) (hv : ∀ z, fv (τ1 z) = .ok (.bool true)) : ∀ (xs K : List Str), K.length + xs.length ≤ 900 →
    dcGo b tYes' fk fv τ0 (sD xs) (dk K) = .ok (dk (xs.foldl putS K))
  | [], K, _ => rfl
  | x :: r, K, hl => by
    rw [List.length_cons] at hl
    show dcGo b tYes' fk fv τ0 (.str x :: sD r) (dk K) = _
    unfold dcGo
    rw [hb x, PL.R.bind_ok]
    show (PL.R.ok true).bind _ = _
    rw [PL.R.bind_ok, if_pos rfl, hk, PL.R.bind_ok, hv, PL.R.bind_ok, if_pos ⟨rfl, by rw [dk_len]; exact small1000 (by omega)⟩, dk_put]
    have := put_len K x
    exact dc_puts hb hk hv r (putS K x) (by omega)
/-- all the words above one of the tags -/
noncomputable def overs (E : List (Str × Str)) : List Str → List Str → List Str
  | K, [] => K
  | K, t :: r => overs E ((upsOf E t).foldl putS K) r
theorem mem_overs {E : List (Str × Str)} {x : Str} : ∀ {T K : List Str}, x ∈ overs E K T ↔ x ∈ K ∨ ∃ t ∈ T, Reach E t x
  | [], K => by simp [overs]
  | t :: r, K => by
    unfold overs
    rw [mem_overs, mem_puts, mem_ups]
    simp [or_assoc]
open Classical in
/-- the tags with none below them -/
noncomputable def leanT (E : List (Str × Str)) (T : List Str) : List Str := T.filter fun x => !decide (∃ t ∈ T, Reach E t x)
theorem lean_tags_is (ws : List Str) {E : List (Str × Str)} (x y : D) (hE : E.length ≤ 30) {T : List Str} (hT : T.length ≤ 20) : f_lean_tags [bookD ws E x y, .tuple (sD T)] = .ok (.tuple (sD (leanT E T))) := by
  unfold f_lean_tags
  refine out_rt ?_
  unfold g_lean_tags
  have st : startE 5 [bookD ws E x y, .tuple (sD T)] = [some (bookD ws E x y), some (.tuple (sD T)), none, none, none] := rfl
  rw [st]
  have go : ∀ (R K : List Str), K.length + 30 * R.length ≤ 700 → dc2Go (bName 3) tYes' ci1_lean_tags [4] (bName 4) tYes' ck1_lean_tags cv1_lean_tags [some (bookD ws E x y), some (.tuple (sD T)), none, none, none] (sD R) (dk K) = .ok (dk (overs E K R)) := fun R => by
    induction R with
    | nil => intro K _; rfl
    | cons t r ih =>
      intro K hl
      rw [List.length_cons] at hl
      show dc2Go _ _ _ _ _ _ _ _ _ (.str t :: sD r) (dk K) = _
      unfold dc2Go
      have e1 : bName 3 (.str t) [some (bookD ws E x y), some (.tuple (sD T)), none, none, none] = .ok [some (bookD ws E x y), some (.tuple (sD T)), none, some (.str t), none] := rfl
      rw [e1, PL.R.bind_ok]
      show (PL.R.ok true).bind _ = _
      rw [PL.R.bind_ok, if_pos rfl]
      have e2 : ci1_lean_tags [some (bookD ws E x y), some (.tuple (sD T)), none, some (.str t), none] = .ok (sD (upsOf E t)) := by
        simp only [ci1_lean_tags, v_fVar0, v_fVarS, v_fC, v_f1, v_f2, v_fTru, v_tNotB, v_fNot, v_fNil, v_fCons, v_fTup, v_fLst, v_fCall, v_fSl, v_oNone, v_oSome, v_iSeq, v_iRange, PL.R.bind_ok, PL.R.calm_ok, dTruth_bool, above_is ws x y (show E.length ≤ 200 by omega) t, itemsOf]
      rw [e2, PL.R.bind_ok]
      have lu := ups_len E t
      have e3 := dc_puts (b := bName 4) (fk := ck1_lean_tags) (fv := cv1_lean_tags) (τ0 := [some (bookD ws E x y), some (.tuple (sD T)), none, some (.str t), none]) (τ1 := fun z => [some (bookD ws E x y), some (.tuple (sD T)), none, some (.str t), some (.str z)]) (fun _ => rfl) (fun _ => rfl) (fun _ => rfl) (upsOf E t) K (by omega)
      have e4 : wipeE [some (bookD ws E x y), some (.tuple (sD T)), none, some (.str t), none] [4] = [some (bookD ws E x y), some (.tuple (sD T)), none, some (.str t), none] := rfl
      rw [e4, e3, PL.R.bind_ok]
      have := puts_len (upsOf E t) K
      exact ih _ (by omega)
  refine st_set (d := .dict (dk (overs E [] T))) ?_ (st_ret ?_)
  · unfold fDc2
    have e : iSeq (fVar 1) [some (bookD ws E x y), some (.tuple (sD T)), none, none, none] = .ok (sD T) := rfl
    rw [e, PL.R.bind_ok]
    have := go T [] (by simp; omega)
    rw [show dk [] = [] from rfl] at this
    show (dc2Go _ _ _ _ _ _ _ _ [some (bookD ws E x y), some (.tuple (sD T)), none, none, none] (sD T) []).calm.bind _ = _
    rw [this]; rfl
  · have := fLc_run (enc := PyData.str) (vs := [3]) (it := iSeq (fVar 1)) (b := bName 3) (fc := ct1_lean_tags) (fe := ce1_lean_tags) (τ := [some (bookD ws E x y), some (.tuple (sD T)), some (.dict (dk (overs E [] T))), none, none]) (τ1 := fun z => [some (bookD ws E x y), some (.tuple (sD T)), some (.dict (dk (overs E [] T))), some (.str z), none]) T (fun z => !decide (z ∈ overs E [] T)) (fun z => .str z) rfl (fun _ => rfl) (fun z _ => by
      have : dNotInD (.str z) (.dict (dk (overs E [] T))) = .ok (.bool (!decide (z ∈ overs E [] T))) := by
        show (if keyFit _ _ = true then _ else _) = _
        rw [if_pos (dk_fit _ _), dk_find]
        by_cases h : z ∈ overs E [] T <;> simp [h]
      simp only [ct1_lean_tags, v_fVar0, v_fVarS, v_fC, v_f1, v_f2, v_fTru, v_tNotB, v_fNot, v_fNil, v_fCons, v_fTup, v_fLst, v_fCall, v_fSl, v_oNone, v_oSome, v_iSeq, v_iRange, PL.R.bind_ok, PL.R.calm_ok, dTruth_bool, this, dTruth_bool]) (fun _ _ _ => rfl)
    have e : (T.filter fun z => !decide (z ∈ overs E [] T)) = leanT E T := by
      unfold leanT
      refine List.filter_congr fun z _ => ?_
      have hz : (z ∈ overs E [] T) ↔ ∃ t ∈ T, Reach E t z := by rw [mem_overs]; simp
      exact congrArg _ (decide_eq_decide.mpr hz)
    rw [e] at this
    show f1 dTuple _ _ = _
    rw [v_f1]
    show (fLc _ _ _ _ _ _).bind _ = _
    erw [this]
    rfl
theorem eqT_strs (xs ys : List Str) : dEq (.tuple (sD xs)) (.tuple (sD ys)) = .ok (.bool (decide (xs = ys))) := by
  have h := dEq_strs xs ys
  have e : dEq (.tuple (sD xs)) (.tuple (sD ys)) = dEq (.list (sD xs)) (.list (sD ys)) := by
    first | rfl | simp [dEq]
  rw [e]; exact h
theorem are_lean_is (ws : List Str) {E : List (Str × Str)} (x y : D) (hE : E.length ≤ 30) {T : List Str} (hT : T.length ≤ 20) : f_are_lean [bookD ws E x y, .tuple (sD T)] = .ok (.bool (decide (leanT E T = T))) := by
  unfold f_are_lean
  refine out_rt ?_
  unfold g_are_lean
  have st : startE 2 [bookD ws E x y, .tuple (sD T)] = [some (bookD ws E x y), some (.tuple (sD T))] := rfl
  rw [st]
  have h : f2 dEq (fCall f_lean_tags (fCons (fVar 0) (fCons (fVar 1) (fNil)))) (fVar 1) [some (bookD ws E x y), some (.tuple (sD T))] = .ok (.bool (decide (leanT E T = T))) := by
    simp only [v_fVar0, v_fVarS, v_fC, v_f1, v_f2, v_fTru, v_tNotB, v_fNot, v_fNil, v_fCons, v_fTup, v_fLst, v_fCall, v_fSl, v_oNone, v_oSome, v_iSeq, v_iRange, PL.R.bind_ok, PL.R.calm_ok, dTruth_bool, lean_tags_is ws x y hE hT, eqT_strs]
  show (f2 dEq _ _ _).bind _ = _
  erw [h]; rfl
end W
set_option Elab.async false
set_option linter.all false
set_option maxRecDepth 100000
set_option maxHeartbeats 1000000
/-! ML: placings without idle ones, in plain terms. -/
namespace W
open PySem PySem.Spec PyProof.Rows L2 PL
/-- words can be numbered so that all goes up -/
def Acyc (E : List (Str × Str)) : Prop := ∃ rk : Str → Nat, ∀ p ∈ E, rk p.1 < rk p.2
theorem Reach.rk {E : List (Str × Str)} {rk : Str → Nat} (h : ∀ p ∈ E, rk p.1 < rk p.2) {a b : Str} (r : Reach E a b) : rk a < rk b := by
  induction r with
  | one e => exact h _ e
  | more e _ ih => exact Nat.lt_trans (h _ e) ih
theorem Acyc.irrefl {E : List (Str × Str)} (h : Acyc E) {a : Str} (r : Reach E a a) : False := by
  obtain ⟨rk, h⟩ := h
  exact Nat.lt_irrefl _ (r.rk h)
theorem acyc_up {os : List Str} (nd : os.Nodup) {E : List (Str × Str)} (hU : ∀ p ∈ E, Up os p) : Acyc E := by
  refine ⟨fun s => os.idxOf s, fun p hp => ?_⟩
  obtain ⟨i, j, h, hi, hj⟩ := hU p hp
  obtain ⟨hi1, hi2⟩ := List.getElem?_eq_some_iff.mp hi
  obtain ⟨hj1, hj2⟩ := List.getElem?_eq_some_iff.mp hj
  show os.idxOf p.1 < os.idxOf p.2
  rw [← hi2, ← hj2, nd.idxOf_getElem i hi1, nd.idxOf_getElem j hj1]
  exact h
theorem Acyc.sub {E F : List (Str × Str)} (h : Acyc E) (s : ∀ p ∈ F, Reach E p.1 p.2) : Acyc F := by
  obtain ⟨rk, h⟩ := h
  exact ⟨rk, fun p hp => (s p hp).rk h⟩
/-- a chain of three or more -/
def Long (E : List (Str × Str)) (a b : Str) : Prop := ∃ c, Reach E a c ∧ Reach E c b
theorem not_long {E : List (Str × Str)} {a b : Str} (r : Reach E a b) (h : ¬ Long E a b) : (a, b) ∈ E := by
  cases r with
  | one e => exact e
  | more e r => exact absurd ⟨_, .one e, r⟩ h
/-- without one placing -/
def less (E : List (Str × Str)) (p : Str × Str) : List (Str × Str) := E.filter fun q => !decide (q = p)
theorem mem_less {E : List (Str × Str)} {p q : Str × Str} : q ∈ less E p ↔ q ∈ E ∧ q ≠ p := by unfold less; simp [List.mem_filter]
theorem reach_less {E : List (Str × Str)} {a b x y : Str} (r : Reach E x y) : Reach (less E (a, b)) x y ∨ ((x = a ∨ Reach E x a) ∧ (b = y ∨ Reach E b y)) := by
  induction r with
  | @one x y e =>
    by_cases h : (x, y) = (a, b)
    · cases h; exact .inr ⟨.inl rfl, .inl rfl⟩
    · exact .inl (.one (mem_less.mpr ⟨e, h⟩))
  | @more x z y e r ih =>
    by_cases h : (x, z) = (a, b)
    · cases h; exact .inr ⟨.inl rfl, .inr r⟩
    · rcases ih with ih | ⟨h1, h2⟩
      · exact .inl (.more (mem_less.mpr ⟨e, h⟩) ih)
      · refine .inr ⟨.inr ?_, h2⟩
        rcases h1 with h1 | h1
        · subst h1; exact .one e
        · exact .more e h1
theorem less_sub {E : List (Str × Str)} {p : Str × Str} {a b : Str} (r : Reach (less E p) a b) : Reach E a b := r.mono fun q hq => (mem_less.mp hq).1
/-- idle, told by what is left -/
theorem idle_long {E : List (Str × Str)} (h : Acyc E) {a b : Str} : Reach (less E (a, b)) a b ↔ Long E a b := by
  constructor
  · intro r
    cases r with
    | one e => exact absurd rfl (mem_less.mp e).2
    | more e r => exact ⟨_, .one (mem_less.mp e).1, less_sub r⟩
  · rintro ⟨c, r1, r2⟩
    refine Reach.trans (b := c) ?_ ?_
    · rcases reach_less (a := a) (b := b) r1 with h1 | ⟨_, h2⟩
      · exact h1
      · rcases h2 with h2 | h2
        · subst h2; exact (h.irrefl r2).elim
        · exact (h.irrefl (h2.trans r2)).elim
    · rcases reach_less (a := a) (b := b) r2 with h1 | ⟨h2, _⟩
      · exact h1
      · rcases h2 with h2 | h2
        · subst h2; exact (h.irrefl r1).elim
        · exact (h.irrefl (r1.trans h2)).elim
open Classical in
/-- the lean placings -/
noncomputable def leanP (E : List (Str × Str)) : List (Str × Str) := E.filter fun p => !decide (Reach (less E p) p.1 p.2)
theorem mem_leanP {E : List (Str × Str)} (h : Acyc E) {p : Str × Str} : p ∈ leanP E ↔ p ∈ E ∧ ¬ Long E p.1 p.2 := by
  unfold leanP
  rw [List.mem_filter]
  obtain ⟨a, b⟩ := p
  simp only [Bool.not_eq_true', decide_eq_false_iff_not]
  rw [idle_long h]
theorem leanP_sub {E : List (Str × Str)} {p : Str × Str} (h : p ∈ leanP E) : p ∈ E := (List.mem_filter.mp h).1
theorem lean_reach {E : List (Str × Str)} (h : Acyc E) {a b : Str} : Reach (leanP E) a b ↔ Reach E a b := by
  refine ⟨Reach.mono fun p hp => leanP_sub hp, ?_⟩
  obtain ⟨rk, hr⟩ := id h
  have go : ∀ n a b, rk b - rk a ≤ n → Reach E a b → Reach (leanP E) a b := fun n => by
    induction n with
    | zero => intro a b hn r; have := r.rk hr; omega
    | succ n ih =>
      intro a b hn r
      by_cases hl : Long E a b
      · obtain ⟨c, r1, r2⟩ := hl
        have := r1.rk hr
        have := r2.rk hr
        exact (ih a c (by omega) r1).trans (ih c b (by omega) r2)
      · exact .one ((mem_leanP h).mpr ⟨not_long r hl, hl⟩)
  exact go _ a b (Nat.le_refl _)
theorem long_same {E F : List (Str × Str)} (h : ∀ a b, Reach E a b ↔ Reach F a b) (a b : Str) : Long E a b ↔ Long F a b :=
  ⟨fun ⟨c, h1, h2⟩ => ⟨c, (h a c).mp h1, (h c b).mp h2⟩, fun ⟨c, h1, h2⟩ => ⟨c, (h a c).mpr h1, (h c b).mpr h2⟩⟩
/-- of all that reach alike the lean placings are the same -/
theorem lean_same {E F : List (Str × Str)} (hE : Acyc E) (hF : Acyc F) (h : ∀ a b, Reach E a b ↔ Reach F a b) (p : Str × Str) : p ∈ leanP E ↔ p ∈ leanP F := by
  rw [mem_leanP hE, mem_leanP hF, long_same h]
  constructor
  · rintro ⟨h1, h2⟩; exact ⟨not_long ((h _ _).mp (.one h1)) h2, h2⟩
  · rintro ⟨h1, h2⟩
    have h3 := fun z => h2 ((long_same h p.1 p.2).mp z)
    exact ⟨not_long ((h _ _).mpr (.one h1)) h3, h2⟩
theorem acyc_lean {E : List (Str × Str)} (h : Acyc E) : Acyc (leanP E) := h.sub fun p hp => .one (leanP_sub hp)
theorem lean_lean {E : List (Str × Str)} (h : Acyc E) : leanP (leanP E) = leanP E := by
  classical
  have hh := acyc_lean h
  have key : ∀ p ∈ leanP E, ¬ Reach (less (leanP E) p) p.1 p.2 := fun p hp r => by
    obtain ⟨a, b⟩ := p
    have l := (idle_long hh).mp r
    exact ((mem_leanP h).mp hp).2 ((long_same (fun a b => lean_reach h) a b).mp l)
  generalize leanP E = T at key
  unfold leanP
  refine List.filter_eq_self.mpr fun p hp => ?_
  rw [decide_eq_false (key p hp)]; rfl
/-- without any of its placings the lean ones rank otherwise -/
theorem lean_needs {E : List (Str × Str)} (h : Acyc E) {p : Str × Str} (hp : p ∈ leanP E) : Reach E p.1 p.2 ∧ ¬ Reach (less (leanP E) p) p.1 p.2 := by
  refine ⟨.one (leanP_sub hp), fun r => ?_⟩
  obtain ⟨a, b⟩ := p
  have l := (idle_long (acyc_lean h)).mp r
  exact ((mem_leanP h).mp hp).2 ((long_same (fun a b => lean_reach h) a b).mp l)
end W
set_option Elab.async false
set_option linter.all false
set_option maxRecDepth 100000
set_option maxHeartbeats 1000000
/-! M30: whole lean tags. -/
namespace W
open PySem PySem.Spec PyProof.Rows L2 PL
theorem dAll_run {α : Type} (xs : List α) (p : α → Bool) : dAll (.list (xs.map fun x => .bool (p x))) = .ok (.bool (xs.all p)) := by
  have e : ∀ xs : List α, boolsOf (xs.map fun x => .bool (p x)) = some (xs.map p) := fun xs => by
    induction xs with
    | nil => rfl
    | cons x r ih => rw [List.map_cons]; unfold boolsOf; rw [ih]; rfl
  unfold dAll
  dsimp only
  rw [e]
  simp only [List.all_map]
  rfl
theorem ne_bool (a b : Bool) : dNe (.bool a) (.bool b) = .ok (.bool (!decide (a = b))) := by
  unfold dNe
  rw [if_pos (by simp [near, isDict, PyData.depth])]
  cases a <;> cases b <;> simp [PyData.eqv]
section
variable {E : List (Str × Str)} {T : List Str}
theorem mem_lean {x : Str} : x ∈ leanT E T ↔ x ∈ T ∧ ∀ t ∈ T, ¬ Reach E t x := by
  unfold leanT
  rw [List.mem_filter, Bool.not_eq_true', decide_eq_false_iff_not]
  exact ⟨fun ⟨a, b⟩ => ⟨a, fun t ht r => b ⟨t, ht, r⟩⟩, fun ⟨a, b⟩ => ⟨a, fun ⟨t, ht, r⟩ => b t ht r⟩⟩
theorem lean_of {S : List Str} (h : ∀ x ∈ S, x ∈ leanT E T) : leanT E S = S := by
  unfold leanT
  rw [List.filter_eq_self]
  intro x hx
  rw [Bool.not_eq_true', decide_eq_false_iff_not]
  rintro ⟨t, ht, r⟩
  exact (mem_lean.mp (h x hx)).2 t (mem_lean.mp (h t ht)).1 r
theorem lean_below (ac : Acyc E) : ∀ {w : Str}, w ∈ T → ∃ t ∈ leanT E T, w = t ∨ Reach E t w := by
  obtain ⟨rk, hr⟩ := ac
  have go : ∀ (n : Nat) (w : Str), rk w ≤ n → w ∈ T → ∃ t ∈ leanT E T, w = t ∨ Reach E t w := fun n => by
    induction n with
    | zero =>
      intro w hn hw
      refine ⟨w, mem_lean.mpr ⟨hw, fun t ht r => ?_⟩, .inl rfl⟩
      have := r.rk hr
      omega
    | succ n ih =>
      intro w hn hw
      by_cases h : ∃ t ∈ T, Reach E t w
      · obtain ⟨t, ht, r⟩ := h
        have := r.rk hr
        obtain ⟨u, hu, q⟩ := ih t (by omega) ht
        exact ⟨u, hu, .inr (q.elim (fun e => e ▸ r) fun q => q.trans r)⟩
      · exact ⟨w, mem_lean.mpr ⟨hw, fun t ht r => h ⟨t, ht, r⟩⟩, .inl rfl⟩
  exact fun {w} hw => go (rk w) w (Nat.le_refl _) hw
theorem ways_alike (ac : Acyc E) (w : Str) : ways E w T = [] ↔ ways E w (leanT E T) = [] := by
  rw [ways_nil, ways_nil]
  constructor
  · exact fun h t ht => h t (mem_lean.mp ht).1
  · intro h t ht z
    obtain ⟨u, hu, q⟩ := lean_below ac ht
    refine h u hu ?_
    rcases z with z | z
    · rcases q with q | q
      · exact .inl (z.trans q)
      · exact .inr (z ▸ q)
    · rcases q with q | q
      · exact .inr (q ▸ z)
      · exact .inr (q.trans z)
/-- a way is told just where the ask finds -/
theorem ways_found (E N : List (Str × Str)) (T : List Str) (w : Str) : findA E N T (.leaf 1 w) = decide (ways E w T ≠ []) := by
  show (T.any fun t => decide (t = w) || decide (w ∈ upsOf E t)) = _
  rw [Bool.eq_iff_iff, List.any_eq_true, decide_eq_true_eq]
  constructor
  · rintro ⟨t, ht, e⟩ h
    rw [Bool.or_eq_true] at e
    refine ways_nil.mp h t ht ?_
    rcases e with e | e
    · exact .inl (of_decide_eq_true e).symm
    · exact .inr (mem_ups.mp (of_decide_eq_true e))
  · intro h
    apply Classical.byContradiction
    intro q
    refine h (ways_nil.mpr fun t ht z => q ⟨t, ht, ?_⟩)
    rw [Bool.or_eq_true]
    rcases z with z | z
    · exact .inl (decide_eq_true z.symm)
    · exact .inr (decide_eq_true (mem_ups.mpr z))
def riseA : Ask → Bool
  | .all => true
  | .leaf k _ => decide (k = 1)
  | .neg a => riseA a
  | .two _ a c => riseA a && riseA c
theorem rise_plain (ws : List Str) (O : List (Str × Str)) : ∀ a : Ask, riseA (plainA ws O a) = riseA a
  | .all => rfl
  | .leaf _ _ => rfl
  | .neg a => rise_plain ws O a
  | .two _ a c => by show (riseA (plainA ws O a) && riseA (plainA ws O c)) = _; rw [rise_plain ws O a, rise_plain ws O c]; rfl
theorem rise_alike (ac : Acyc E) (N : List (Str × Str)) : ∀ a : Ask, riseA a = true → findA E N T a = findA E N (leanT E T) a
  | .all, _ => rfl
  | .leaf k w, h => by
    have hk : k = 1 := of_decide_eq_true h
    subst hk
    rw [ways_found, ways_found]
    exact decide_eq_decide.mpr (not_congr (ways_alike ac w))
  | .neg a, h => by show (!findA E N T a) = !findA E N (leanT E T) a; rw [rise_alike ac N a h]
  | .two b a c, h => by
    have h : (riseA a && riseA c) = true := h
    rw [Bool.and_eq_true] at h
    show (if b = true then findA E N T a && findA E N T c else findA E N T a || findA E N T c) = (if b = true then _ else _)
    rw [rise_alike ac N a h.1, rise_alike ac N c h.2]
end
theorem rises_is : ∀ (a : Ask) (m : Nat), a.dep < m → fn__law_rises m [a.enc] = .ok (.bool (riseA a))
  | a, 0, h => absurd h (Nat.not_lt_zero _)
  | a, m + 1, h => by
    obtain ⟨ak, hak⟩ : ∃ ak, ak = PyData.tuple (.str a.hd :: a.prt) := ⟨_, rfl⟩
    have go : ∀ r, g__law_rises (fn__law_rises m) [some ak, none] = .ok (.rt r) → fn__law_rises (m + 1) [a.enc] = .ok r := fun r e => by
      show fnOut 2 (g__law_rises (fn__law_rises m)) [a.enc] = _
      rw [a.enc_is, ← hak]
      refine out_rt ?_
      exact e
    have k0 : dItem ak (.int 0) = .ok (.str a.hd) := by rw [hak]; exact itm0 _ _
    have t1 : ∀ c : Bool, decide (a.hd ∈ (["only", "by"] : List Str)) = c → fTru (f2 dIn (f2 dItem (fVar 0) (fC (.int 0))) (fTup (fCons (fC (.str "only")) (fCons (fC (.str "by")) (fNil))))) [some ak, none] = .ok c := fun c hc => by
      have := dIn_tstrs ["only", "by"] a.hd
      rw [hc] at this
      have this' : dIn (.str a.hd) (.tuple [.str "only", .str "by"]) = .ok (.bool c) := this
      simp only [v_fVar0, v_fVarS, v_fC, v_f1, v_f2, v_fTru, v_tNotB, v_fNot, v_fNil, v_fCons, v_fTup, v_fLst, v_fCall, v_fSl, v_oNone, v_oSome, v_iSeq, v_iRange, PL.R.bind_ok, PL.R.calm_ok, dTruth_bool, k0, this']
    have t2 : ∀ c : Bool, decide (a.hd ∈ (["all", "under"] : List Str)) = c → f2 dIn (f2 dItem (fVar 0) (fC (.int 0))) (fTup (fCons (fC (.str "all")) (fCons (fC (.str "under")) (fNil)))) [some ak, none] = .ok (.bool c) := fun c hc => by
      have := dIn_tstrs ["all", "under"] a.hd
      rw [hc] at this
      have this' : dIn (.str a.hd) (.tuple [.str "all", .str "under"]) = .ok (.bool c) := this
      simp only [v_fVar0, v_fVarS, v_fC, v_f1, v_f2, v_fTru, v_tNotB, v_fNot, v_fNil, v_fCons, v_fTup, v_fLst, v_fCall, v_fSl, v_oNone, v_oSome, v_iSeq, v_iRange, PL.R.bind_ok, PL.R.calm_ok, dTruth_bool, k0, this']
    have sub : ∀ p ∈ a.subs, fn__law_rises m [p.enc] = .ok (.bool (riseA p)) := fun p hp => by
      cases a with
      | all => exact absurd hp List.not_mem_nil
      | leaf k z => exact absurd hp List.not_mem_nil
      | neg a =>
        rw [List.mem_singleton.mp hp]
        exact rises_is a m (by simp only [Ask.dep] at h; omega)
      | two b a c =>
        rcases (show p = a ∨ p = c by simpa [Ask.subs] using hp) with e | e <;> rw [e]
        · exact rises_is a m (by simp only [Ask.dep] at h; omega)
        · exact rises_is c m (by simp only [Ask.dep] at h; omega)
    have al : a.prt = a.subs.map Ask.enc → f1 dAll (fLc [1] (iSeq (fSl (fVar 0) (oSome (fC (.int 1))) (oNone))) (bName 1) (tYes') (ce1__law_rises (fn__law_rises m))) [some ak, none] = .ok (.bool (a.subs.all riseA)) := fun hp => by
      have := fLc_map (enc := Ask.enc) (vs := [1]) (it := iSeq (fSl (fVar 0) (oSome (fC (.int 1))) (oNone))) (b := bName 1) (fe := ce1__law_rises (fn__law_rises m)) (τ := [some ak, none]) (τ1 := fun p => [some ak, some p.enc]) a.subs (fun p => .bool (riseA p)) (by rw [hak, hp]; simp only [v_fVar0, v_fVarS, v_fC, v_f1, v_f2, v_fTru, v_tNotB, v_fNot, v_fNil, v_fCons, v_fTup, v_fLst, v_fCall, v_fSl, v_oNone, v_oSome, v_iSeq, v_iRange, PL.R.bind_ok, PL.R.calm_ok, dTruth_bool, dPart_int, sliceT_tail, itemsOf, List.tail_cons]) (fun _ => rfl) fun p hp' => by
        simp only [ce1__law_rises, v_fVar0, v_fVarS, v_fC, v_f1, v_f2, v_fTru, v_tNotB, v_fNot, v_fNil, v_fCons, v_fTup, v_fLst, v_fCall, v_fSl, v_oNone, v_oSome, v_iSeq, v_iRange, PL.R.bind_ok, PL.R.calm_ok, dTruth_bool, sub p hp']
      rw [v_f1, this, PL.R.bind_ok, dAll_run]
    refine go _ ?_
    unfold g__law_rises
    cases a with
    | all =>
      refine st_ifF (t1 false (by rfl)) (st_next (st_ret ?_))
      rw [v_fOr, t2 true (by rfl)]; rfl
    | leaf k z =>
      match k with
      | 0 => exact st_ifT (t1 true (by rfl)) (st_rt (st_ret rfl))
      | 1 =>
        refine st_ifF (t1 false (by rfl)) (st_next (st_ret ?_))
        rw [v_fOr, t2 true (by rfl)]; rfl
      | k + 2 =>
        refine st_ifT (t1 true (by rfl)) (st_rt (st_ret ?_))
        show _ = PL.R.ok (PyData.bool (decide (k + 2 = 1)))
        rw [decide_eq_false (by omega)]; rfl
    | neg p =>
      refine st_ifF (t1 false (by rfl)) (st_next (st_ret ?_))
      rw [v_fOr, t2 false (by rfl), al rfl]
      show PL.R.ok (PyData.bool (riseA p && true)) = _
      rw [Bool.and_true]; rfl
    | two b p q =>
      refine st_ifF (t1 false (by cases b <;> rfl)) (st_next (st_ret ?_))
      rw [v_fOr, t2 false (by cases b <;> rfl), al rfl]
      show PL.R.ok (PyData.bool (riseA p && (riseA q && true))) = _
      rw [Bool.and_true]; rfl
section
variable {ws : List Str} {E N O : List (Str × Str)} {T : List Str}
theorem mul_b (z : Str) : ∀ c : Bool, (dInt (.bool c)).bind (fun b => dMul (.list [.str z]) b) = .ok (.list (sD (if c = true then [z] else []))) := fun c => by cases c <;> rfl
open Classical in
/-- how the law tells the lean ones -/
theorem due_is (lE : E.length < 64) (ak td : D) (lT : T.length ≤ 20) : ∀ (R F : List Str), F.length + R.length ≤ 20 → forGo (bName 5) lb1__law_right (sD R) [some (formT ws E N O), some (tT T), some ak, some td, some (.list (sD F)), none, none, none, none, none, none, none] =
    .ok (.nx [some (formT ws E N O), some (tT T), some ak, some td, some (.list (sD (F ++ R.filter fun x => !decide (∃ t ∈ T, Reach E t x)))), none, none, none, none, none, none, none])
  | [], F, _ => by rw [List.filter_nil, List.append_nil]; rfl
  | z :: r, F, hl => by
    rw [List.length_cons] at hl
    have up : ∀ t : Str, f__law_up [.tuple (E.map pD), .str t] = .ok (.list (sD (upsOf E t))) := fun t => law_up_is rfl lE t
    show forGo _ _ (.str z :: sD r) _ = _
    rw [v_forS]
    have e1 : bName 5 (.str z) [some (formT ws E N O), some (tT T), some ak, some td, some (.list (sD F)), none, none, none, none, none, none, none] = .ok [some (formT ws E N O), some (tT T), some ak, some td, some (.list (sD F)), some (.str z), none, none, none, none, none, none] := rfl
    rw [e1]
    obtain ⟨L, hL⟩ : ∃ L, L = T.filter fun o => decide (z ∈ upsOf E o) := ⟨_, rfl⟩
    have c1 : fLc [10] (iSeq (fVar 1)) (bName 10) (ct1__law_right) (ce1__law_right) [some (formT ws E N O), some (tT T), some ak, some td, some (.list (sD F)), some (.str z), none, none, none, none, none, none] = .ok (.list (sD L)) := by
      rw [hL]
      exact fLc_run (enc := PyData.str) (τ1 := fun o => [some (formT ws E N O), some (tT T), some ak, some td, some (.list (sD F)), some (.str z), none, none, none, none, some (.str o), none]) T _ PyData.str rfl (fun _ => rfl) (fun o _ => by simp only [ct1__law_right, v_fVar0, v_fVarS, v_fC, v_f1, v_f2, v_fTru, v_tNotB, v_fNot, v_fNil, v_fCons, v_fTup, v_fLst, v_fCall, v_fSl, v_oNone, v_oSome, v_iSeq, v_iRange, PL.R.bind_ok, PL.R.calm_ok, dTruth_bool, form1, up, dIn_strs]) fun o _ _ => by simp only [ce1__law_right, v_fVar0, v_fVarS, v_fC, v_f1, v_f2, v_fTru, v_tNotB, v_fNot, v_fNil, v_fCons, v_fTup, v_fLst, v_fCall, v_fSl, v_oNone, v_oSome, v_iSeq, v_iRange, PL.R.bind_ok, PL.R.calm_ok, dTruth_bool]
    obtain ⟨c, hc⟩ : ∃ c : Bool, c = decide (sD L = []) := ⟨_, rfl⟩
    have ec : c = !decide (∃ t ∈ T, Reach E t z) := by
      rw [hc, Bool.eq_iff_iff, decide_eq_true_eq, List.map_eq_nil_iff, hL, List.filter_eq_nil_iff, Bool.not_eq_true', decide_eq_false_iff_not]
      exact ⟨fun h ⟨t, ht, q⟩ => h t ht (decide_eq_true (mem_ups.mpr q)), fun h t ht q => h ⟨t, ht, mem_ups.mp (of_decide_eq_true q)⟩⟩
    have mu := mul_b z c
    have ad := (addLL (sD F) (sD (if c = true then [z] else [])) (by simp only [List.length_map]; split <;> simp <;> omega)).1
    have e2 : lb1__law_right [some (formT ws E N O), some (tT T), some ak, some td, some (.list (sD F)), some (.str z), none, none, none, none, none, none] = .ok (.nx [some (formT ws E N O), some (tT T), some ak, some td, some (.list (sD (F ++ if c = true then [z] else []))), none, none, none, none, none, none, none]) := by
      unfold lb1__law_right
      refine st_set c1 (st_set (d := .list (sD (F ++ if c = true then [z] else []))) ?_ rfl)
      simp only [List.set_cons_succ, List.set_cons_zero]
      have mm : f2 dMul (fLst (fCons (fVar 5) (fNil))) (f1 dInt (f2 dEq (fVar 7) (fLst (fNil)))) [some (formT ws E N O), some (tT T), some ak, some td, some (.list (sD F)), some (.str z), none, some (.list (sD L)), none, none, none, none] = .ok (.list (sD (if c = true then [z] else []))) := by
        simp only [v_fVar0, v_fVarS, v_fC, v_f1, v_f2, v_fTru, v_tNotB, v_fNot, v_fNil, v_fCons, v_fTup, v_fLst, v_fCall, v_fSl, v_oNone, v_oSome, v_iSeq, v_iRange, PL.R.bind_ok, PL.R.calm_ok, dTruth_bool, eqL_nil, ← hc]
        exact mu
      rw [v_f2, mm]
      simp only [v_fVar0, v_fVarS, v_fC, v_f1, v_f2, v_fTru, v_tNotB, v_fNot, v_fNil, v_fCons, v_fTup, v_fLst, v_fCall, v_fSl, v_oNone, v_oSome, v_iSeq, v_iRange, PL.R.bind_ok, PL.R.calm_ok, dTruth_bool]
      rw [ad, sD_app]
    show ((lb1__law_right _).bind _) = _
    rw [e2, PL.R.bind_ok]
    have := due_is lE ak td lT r (F ++ if c = true then [z] else []) (by rw [List.length_append]; split <;> simp <;> omega)
    have e3 : F ++ (z :: r).filter (fun x => !decide (∃ t ∈ T, Reach E t x)) = (F ++ if c = true then [z] else []) ++ r.filter fun x => !decide (∃ t ∈ T, Reach E t x) := by
      rw [List.append_assoc]
      congr 1
      rw [ec]
      by_cases q : (!decide (∃ t ∈ T, Reach E t z)) = true
      · rw [if_pos q, List.filter_cons, if_pos q]; rfl
      · rw [if_neg q, List.filter_cons, if_neg q]; rfl
    rw [e3]
    exact this
theorem neT_strs (xs : List Str) : dNe (.tuple (sD xs)) (.tuple (sD xs)) = .ok (.bool false) := by
  rw [dNe_noB (by simp) (by simp) (.inl (Nat.le_trans (depth_tuple_le (k := 0) fun d hd => by
    obtain ⟨i, _, rfl⟩ := List.mem_map.mp hd
    simp [PyData.depth]) (by omega))), decide_eq_true rfl]; rfl
open Classical in
theorem right_is (ac : Acyc E) (nd : (O.map (·.1)).Nodup) (lO : O.length ≤ 3) (lE : E.length ≤ 30) (lN : N.length ≤ 100) (lT : T.length ≤ 20) (hT : ∀ t ∈ T, t ∈ ws) {a : Ask} (da : a.dep ≤ 3) (na : ∀ z ∈ a.names, z ∈ ws ++ O.map (·.1)) :
    f__law_right [formT ws E N O, tT T, a.enc] = .ok (.bool true) := by
  obtain ⟨S, hS⟩ : ∃ S, S = leanT E T := ⟨_, rfl⟩
  obtain ⟨ak, hak⟩ : ∃ ak, ak = a.enc := ⟨_, rfl⟩
  have lS : S.length ≤ 20 := by rw [hS]; exact Nat.le_trans (List.length_filter_le _ _) lT
  have mS : ∀ x, x ∈ S ↔ x ∈ T ∧ ∀ t ∈ T, ¬ Reach E t x := fun x => by rw [hS]; exact mem_lean
  have lt : ∀ X : List Str, X.length ≤ 20 → f_lean_tags [formT ws E N O, tT X] = .ok (tT (leanT E X)) := fun X h => lean_tags_is ws (.tuple (N.map pD)) (.tuple (O.map pD)) lE h
  have al : ∀ X : List Str, X.length ≤ 20 → f_are_lean [formT ws E N O, tT X] = .ok (.bool (decide (leanT E X = X))) := fun X h => are_lean_is ws (.tuple (N.map pD)) (.tuple (O.map pD)) lE h
  have sS : leanT E S = S := lean_of (T := T) fun x hx => by rw [hS] at hx; exact hx
  have up : ∀ t : Str, f__law_up [.tuple (E.map pD), .str t] = .ok (.list (sD (upsOf E t))) := fun t => law_up_is rfl (by omega) t
  unfold f__law_right
  refine out_rt ?_
  unfold g__law_right
  have st : startE 12 [formT ws E N O, tT T, a.enc] = [some (formT ws E N O), some (tT T), some ak, none, none, none, none, none, none, none, none, none] := by rw [hak]; rfl
  rw [st]
  have lTT := lt T lT
  rw [← hS] at lTT
  refine st_set (d := tT S) (by simp only [v_fVar0, v_fVarS, v_fC, v_f1, v_f2, v_fTru, v_tNotB, v_fNot, v_fNil, v_fCons, v_fTup, v_fLst, v_fCall, v_fSl, v_oNone, v_oSome, v_iSeq, v_iRange, PL.R.bind_ok, PL.R.calm_ok, dTruth_bool, lTT]) (st_set (d := .list (sD [])) rfl ?_)
  simp only [List.set_cons_succ, List.set_cons_zero]
  have du := due_is (ws := ws) (N := N) (O := O) (E := E) (T := T) (by omega) ak (tT S) lT T [] (by simp; omega)
  rw [List.nil_append] at du
  have du2 : (T.filter fun x => !decide (∃ t ∈ T, Reach E t x)) = S := by rw [hS]; rfl
  rw [du2] at du
  refine st_for (ds := sD T) (τ' := _) (by simp only [v_fVar0, v_fVarS, v_fC, v_f1, v_f2, v_fTru, v_tNotB, v_fNot, v_fNil, v_fCons, v_fTup, v_fLst, v_fCall, v_fSl, v_oNone, v_oSome, v_iSeq, v_iRange, PL.R.bind_ok, PL.R.calm_ok, dTruth_bool, itemsOf]) du ?_
  have nb := ne_bool (decide (S = T)) (decide (S = T))
  rw [decide_eq_true rfl] at nb
  have aT := al T lT
  rw [← hS] at aT
  have lSS := lt S lS
  rw [sS] at lSS
  have nS := neT_strs S
  refine st_ifF ?_ (st_next ?_)
  · simp only [v_tOrB, v_fVar0, v_fVarS, v_fC, v_f1, v_f2, v_fTru, v_tNotB, v_fNot, v_fNil, v_fCons, v_fTup, v_fLst, v_fCall, v_fSl, v_oNone, v_oSome, v_iSeq, v_iRange, PL.R.bind_ok, PL.R.calm_ok, dTruth_bool, dTuple_list, nS, aT, eqT_strs, nb, lSS]
    rfl
  refine st_for (ds := sD T) (τ' := [some (formT ws E N O), some (tT T), some ak, some (tT S), some (.list (sD S)), none, none, none, none, none, none, none]) (by simp only [v_fVar0, v_fVarS, v_fC, v_f1, v_f2, v_fTru, v_tNotB, v_fNot, v_fNil, v_fCons, v_fTup, v_fLst, v_fCall, v_fSl, v_oNone, v_oSome, v_iSeq, v_iRange, PL.R.bind_ok, PL.R.calm_ok, dTruth_bool, itemsOf]) (for_keep _ fun z hz => ?_) ?_
  · obtain ⟨z, hz', rfl⟩ := List.mem_map.mp hz
    show (lb2__law_right [some (formT ws E N O), some (tT T), some ak, some (tT S), some (.list (sD S)), some (.str z), none, none, none, none, none, none]) = _
    unfold lb2__law_right
    have r1 := reason_is (ws := ws) (E := E) (N := N) (O := O) nd (by omega) (by omega) (T := T) (by omega) (z := z) (w := z) (by unfold wordOf; rw [if_pos (hT z hz')])
    have r2 := reason_is (ws := ws) (E := E) (N := N) (O := O) nd (by omega) (by omega) (T := S) (by omega) (z := z) (w := z) (by unfold wordOf; rw [if_pos (hT z hz')])
    refine st_ifF ?_ (st_next (st_ifF ?_ (st_next rfl)))
    · have c1 : fLc [11] (iSeq (fVar 3)) (bName 11) (ct2__law_right) (ce2__law_right) [some (formT ws E N O), some (tT T), some ak, some (tT S), some (.list (sD S)), some (.str z), none, none, none, none, none, none] = .ok (.list (sD (S.filter fun o => decide (z ∈ upsOf E o)))) :=
        fLc_run (enc := PyData.str) (τ1 := fun o => [some (formT ws E N O), some (tT T), some ak, some (tT S), some (.list (sD S)), some (.str z), none, none, none, none, none, some (.str o)]) S _ PyData.str rfl (fun _ => rfl) (fun o _ => by simp only [ct2__law_right, v_fVar0, v_fVarS, v_fC, v_f1, v_f2, v_fTru, v_tNotB, v_fNot, v_fNil, v_fCons, v_fTup, v_fLst, v_fCall, v_fSl, v_oNone, v_oSome, v_iSeq, v_iRange, PL.R.bind_ok, PL.R.calm_ok, dTruth_bool, form1, up, dIn_strs]) fun o _ _ => by simp only [ce2__law_right, v_fVar0, v_fVarS, v_fC, v_f1, v_f2, v_fTru, v_tNotB, v_fNot, v_fNil, v_fCons, v_fTup, v_fLst, v_fCall, v_fSl, v_oNone, v_oSome, v_iSeq, v_iRange, PL.R.bind_ok, PL.R.calm_ok, dTruth_bool]
      have t2 : fTru (f2 dEq (fLc [11] (iSeq (fVar 3)) (bName 11) (ct2__law_right) (ce2__law_right)) (fLst (fNil))) [some (formT ws E N O), some (tT T), some ak, some (tT S), some (.list (sD S)), some (.str z), none, none, none, none, none, none] = .ok (decide (sD (S.filter fun o => decide (z ∈ upsOf E o)) = [])) := by
        rw [v_fTru, v_f2, c1]
        simp only [v_fVar0, v_fVarS, v_fC, v_f1, v_f2, v_fTru, v_tNotB, v_fNot, v_fNil, v_fCons, v_fTup, v_fLst, v_fCall, v_fSl, v_oNone, v_oSome, v_iSeq, v_iRange, PL.R.bind_ok, PL.R.calm_ok, dTruth_bool, eqL_nil]
      have t1 := dNotIn_tstrs S z
      by_cases hzS : z ∈ S
      · rw [decide_eq_true hzS] at t1
        simp only [v_tAndB, v_fVar0, v_fVarS, v_fC, v_f1, v_f2, v_fTru, v_tNotB, v_fNot, v_fNil, v_fCons, v_fTup, v_fLst, v_fCall, v_fSl, v_oNone, v_oSome, v_iSeq, v_iRange, PL.R.bind_ok, PL.R.calm_ok, dTruth_bool, t1]
        rfl
      · have f : decide (sD (S.filter fun o => decide (z ∈ upsOf E o)) = []) = false := decide_eq_false fun h => by
          rw [List.map_eq_nil_iff, List.filter_eq_nil_iff] at h
          obtain ⟨t, ht, q⟩ := lean_below ac hz'
          rw [← hS] at ht
          rcases q with q | q
          · exact hzS (q ▸ ht)
          · exact h t ht (decide_eq_true (mem_ups.mpr q))
        rw [f] at t2
        rw [v_tAndB, t2]
        simp only [v_fVar0, v_fVarS, v_fC, v_f1, v_f2, v_fTru, v_tNotB, v_fNot, v_fNil, v_fCons, v_fTup, v_fLst, v_fCall, v_fSl, v_oNone, v_oSome, v_iSeq, v_iRange, PL.R.bind_ok, PL.R.calm_ok, dTruth_bool, t1]
        cases (!decide (z ∈ S)) <;> rfl
    · have wa := ways_alike (T := T) ac z
      rw [← hS] at wa
      have i1 : dIs (hdD (ways E z T)) .none = .ok (.bool (decide (ways E z T = []))) := by cases ways E z T <;> rfl
      have i2 : dIs (hdD (ways E z S)) .none = .ok (.bool (decide (ways E z T = []))) := by
        have : decide (ways E z T = []) = decide (ways E z S = []) := decide_eq_decide.mpr wa
        rw [this]
        cases ways E z S <;> rfl
      have n2 := ne_bool (decide (ways E z T = [])) (decide (ways E z T = []))
      rw [decide_eq_true rfl] at n2
      simp only [v_fVar0, v_fVarS, v_fC, v_f1, v_f2, v_fTru, v_tNotB, v_fNot, v_fNil, v_fCons, v_fTup, v_fLst, v_fCall, v_fSl, v_oNone, v_oSome, v_iSeq, v_iRange, PL.R.bind_ok, PL.R.calm_ok, dTruth_bool, r1, r2, i1, i2, n2]
      rfl
  · obtain ⟨p, hp⟩ : ∃ p, p = plainA ws O a := ⟨_, rfl⟩
    have pl : ∀ X : List Str, X.length ≤ 20 → f_places_of [formT ws E N O, .list [tT X], ak] = .ok (.list (placesA E N p [X] 0)) := fun X h => by
      rw [hak, hp]
      exact places_is (S := [X]) nd (by omega) (by omega) lN (by simp) (fun T' h' => by rw [List.mem_singleton.mp h']; omega) a (by omega) na
    have both : fLc [9] (iSeq (fTup (fCons (fVar 1) (fCons (fVar 3) (fNil))))) (bName 9) (tYes') (ce3__law_right) [some (formT ws E N O), some (tT T), some ak, some (tT S), some (.list (sD S)), none, none, none, none, none, none, none] = .ok (.list [.list (placesA E N p [T] 0), .list (placesA E N p [S] 0)]) := by
      have := fLc_map (enc := tT) (vs := [9]) (it := iSeq (fTup (fCons (fVar 1) (fCons (fVar 3) (fNil))))) (b := bName 9) (fe := ce3__law_right) (τ := [some (formT ws E N O), some (tT T), some ak, some (tT S), some (.list (sD S)), none, none, none, none, none, none, none]) (τ1 := fun X => [some (formT ws E N O), some (tT T), some ak, some (tT S), some (.list (sD S)), none, none, none, none, some (tT X), none, none]) [T, S] (fun X => .list (placesA E N p [X] 0)) rfl (fun _ => rfl) fun X hX => by
        have lX : X.length ≤ 20 := by
          rcases (show X = T ∨ X = S by simpa using hX) with e | e <;> rw [e]
          · exact lT
          · exact lS
        simp only [ce3__law_right, v_fVar0, v_fVarS, v_fC, v_f1, v_f2, v_fTru, v_tNotB, v_fNot, v_fNil, v_fCons, v_fTup, v_fLst, v_fCall, v_fSl, v_oNone, v_oSome, v_iSeq, v_iRange, PL.R.bind_ok, PL.R.calm_ok, dTruth_bool, pl X lX]
      exact this
    refine st_set both ?_
    simp only [List.set_cons_succ, List.set_cons_zero]
    have ri : f__law_rises [ak] = .ok (.bool (riseA a)) := by rw [hak]; exact rises_is a 30 (by omega)
    refine st_ifF ?_ (st_next ?_)
    · cases hr : riseA a with
      | false =>
        rw [hr] at ri
        simp only [v_tAndB, v_fVar0, v_fVarS, v_fC, v_f1, v_f2, v_fTru, v_tNotB, v_fNot, v_fNil, v_fCons, v_fTup, v_fLst, v_fCall, v_fSl, v_oNone, v_oSome, v_iSeq, v_iRange, PL.R.bind_ok, PL.R.calm_ok, dTruth_bool, ri]
        rfl
      | true =>
        rw [hr] at ri
        have sm : placesA E N p [T] 0 = placesA E N p [S] 0 := by
          have := rise_alike (T := T) ac N p (by rw [hp, rise_plain]; exact hr)
          rw [← hS] at this
          show (if findA E N T p = true then _ else _) ++ _ = (if findA E N S p = true then _ else _) ++ _
          rw [this]
        have ne : dNe (.list (placesA E N p [T] 0)) (.list (placesA E N p [S] 0)) = .ok (.bool false) := by
          rw [sm]
          have e : placesA E N p [S] 0 = (if findA E N S p = true then [PyData.int (0 : Nat)] else []) ++ [] := rfl
          rw [e]
          cases findA E N S p <;> rfl
        simp only [v_tAndB, v_fVar0, v_fVarS, v_fC, v_f1, v_f2, v_fTru, v_tNotB, v_fNot, v_fNil, v_fCons, v_fTup, v_fLst, v_fCall, v_fSl, v_oNone, v_oSome, v_iSeq, v_iRange, PL.R.bind_ok, PL.R.calm_ok, dTruth_bool, ri, itl0, itl1, ne]
        rfl
    · refine st_for (ds := sD S) (τ' := [some (formT ws E N O), some (tT T), some ak, some (tT S), some (.list (sD S)), none, some (.list [.list (placesA E N p [T] 0), .list (placesA E N p [S] 0)]), none, none, none, none, none]) (by simp only [v_fVar0, v_fVarS, v_fC, v_f1, v_f2, v_fTru, v_tNotB, v_fNot, v_fNil, v_fCons, v_fTup, v_fLst, v_fCall, v_fSl, v_oNone, v_oSome, v_iSeq, v_iRange, PL.R.bind_ok, PL.R.calm_ok, dTruth_bool, itemsOf]) (for_keep _ fun z hz => ?_) (st_ret ?_)
      · obtain ⟨z, hz', rfl⟩ := List.mem_map.mp hz
        obtain ⟨bo, hbo⟩ : ∃ bo, bo = PyData.list [.list (placesA E N p [T] 0), .list (placesA E N p [S] 0)] := ⟨_, rfl⟩
        rw [← hbo]
        show (lb3__law_right [some (formT ws E N O), some (tT T), some ak, some (tT S), some (.list (sD S)), some (.str z), some bo, none, none, none, none, none]) = _
        unfold lb3__law_right
        obtain ⟨L, hL⟩ : ∃ L, L = S.filter fun o => !decide (o = z) := ⟨_, rfl⟩
        have hLS : ∀ x ∈ L, x ∈ S := fun x hx => by rw [hL] at hx; exact (List.mem_filter.mp hx).1
        have lL : L.length ≤ 20 := by rw [hL]; exact Nat.le_trans (List.length_filter_le _ _) lS
        have c1 : fLc [11] (iSeq (fVar 3)) (bName 11) (ct3__law_right) (ce4__law_right) [some (formT ws E N O), some (tT T), some ak, some (tT S), some (.list (sD S)), some (.str z), some bo, none, none, none, none, none] = .ok (.list (sD L)) := by
          rw [hL]
          exact fLc_run (enc := PyData.str) (τ1 := fun o => [some (formT ws E N O), some (tT T), some ak, some (tT S), some (.list (sD S)), some (.str z), some bo, none, none, none, none, some (.str o)]) S _ PyData.str rfl (fun _ => rfl) (fun o _ => by simp only [ct3__law_right, v_fVar0, v_fVarS, v_fC, v_f1, v_f2, v_fTru, v_tNotB, v_fNot, v_fNil, v_fCons, v_fTup, v_fLst, v_fCall, v_fSl, v_oNone, v_oSome, v_iSeq, v_iRange, PL.R.bind_ok, PL.R.calm_ok, dTruth_bool, dNe_text]) fun o _ _ => by simp only [ce4__law_right, v_fVar0, v_fVarS, v_fC, v_f1, v_f2, v_fTru, v_tNotB, v_fNot, v_fNil, v_fCons, v_fTup, v_fLst, v_fCall, v_fSl, v_oNone, v_oSome, v_iSeq, v_iRange, PL.R.bind_ok, PL.R.calm_ok, dTruth_bool]
        refine st_set (d := tT L) (by rw [v_f1, c1]; rfl) (st_ifF ?_ (st_next rfl))
        simp only [List.set_cons_succ, List.set_cons_zero]
        have c2 : fLc [11] (iSeq (fVar 8)) (bName 11) (ct4__law_right) (ce5__law_right) [some (formT ws E N O), some (tT T), some ak, some (tT S), some (.list (sD S)), some (.str z), some bo, none, some (tT L), none, none, none] = .ok (.list (sD (L.filter fun o => decide (z ∈ upsOf E o)))) :=
          fLc_run (enc := PyData.str) (τ1 := fun o => [some (formT ws E N O), some (tT T), some ak, some (tT S), some (.list (sD S)), some (.str z), some bo, none, some (tT L), none, none, some (.str o)]) L _ PyData.str rfl (fun _ => rfl) (fun o _ => by simp only [ct4__law_right, v_fVar0, v_fVarS, v_fC, v_f1, v_f2, v_fTru, v_tNotB, v_fNot, v_fNil, v_fCons, v_fTup, v_fLst, v_fCall, v_fSl, v_oNone, v_oSome, v_iSeq, v_iRange, PL.R.bind_ok, PL.R.calm_ok, dTruth_bool, form1, up, dIn_strs]) fun o _ _ => by simp only [ce5__law_right, v_fVar0, v_fVarS, v_fC, v_f1, v_f2, v_fTru, v_tNotB, v_fNot, v_fNil, v_fCons, v_fTup, v_fLst, v_fCall, v_fSl, v_oNone, v_oSome, v_iSeq, v_iRange, PL.R.bind_ok, PL.R.calm_ok, dTruth_bool]
        have em : (L.filter fun o => decide (z ∈ upsOf E o)) = [] := List.filter_eq_nil_iff.mpr fun o ho q => ((mS z).mp hz').2 o ((mS o).mp (hLS o ho)).1 (mem_ups.mp (of_decide_eq_true q))
        rw [em] at c2
        have t1 : fTru (f2 dNe (fLc [11] (iSeq (fVar 8)) (bName 11) (ct4__law_right) (ce5__law_right)) (fLst (fNil))) [some (formT ws E N O), some (tT T), some ak, some (tT S), some (.list (sD S)), some (.str z), some bo, none, some (tT L), none, none, none] = .ok false := by
          rw [v_fTru, v_f2, c2]
          simp only [v_fVar0, v_fVarS, v_fC, v_f1, v_f2, v_fTru, v_tNotB, v_fNot, v_fNil, v_fCons, v_fTup, v_fLst, v_fCall, v_fSl, v_oNone, v_oSome, v_iSeq, v_iRange, PL.R.bind_ok, PL.R.calm_ok, dTruth_bool, List.map_nil, neL_nil]
          rfl
        have sL : leanT E L = L := lean_of (T := T) fun x hx => by have := hLS x hx; rw [hS] at this; exact this
        have lLL := lt L lL
        rw [sL] at lLL
        rw [v_tOrB, t1]
        simp only [v_fVar0, v_fVarS, v_fC, v_f1, v_f2, v_fTru, v_tNotB, v_fNot, v_fNil, v_fCons, v_fTup, v_fLst, v_fCall, v_fSl, v_oNone, v_oSome, v_iSeq, v_iRange, PL.R.bind_ok, PL.R.calm_ok, dTruth_bool, lLL, neT_strs]
        rfl
      · have aS := al S lS
        rw [sS, decide_eq_true rfl] at aS
        simp only [v_fVar0, v_fVarS, v_fC, v_f1, v_f2, v_fTru, v_tNotB, v_fNot, v_fNil, v_fCons, v_fTup, v_fLst, v_fCall, v_fSl, v_oNone, v_oSome, v_iSeq, v_iRange, PL.R.bind_ok, PL.R.calm_ok, dTruth_bool, aS]
        rfl
theorem turn_k (s a : D) {ds : List Int} (hl : ds.length = 60) (hd : ∀ d ∈ ds, 0 ≤ d ∧ d < 27720) (ac : Acyc E) (nd : (O.map (·.1)).Nodup) (lO : O.length ≤ 3) (lw : ws.length ≤ 20) (lE : E.length ≤ 30) (lN : N.length ≤ 100) (j : Nat) (hj : j < 12) :
    lb1_law [some s, some a, some (formT ws E N O), some (.list (iD ds)), some (.int (j : Nat)), none, none, none] = .ok (.nx [some s, some a, some (formT ws E N O), some (.list (iD ds)), none, none, none, none]) := by
  obtain ⟨x, ex⟩ := row_at (ds := ds) (i := j) (by omega)
  have hx : 0 ≤ x ∧ x < 27720 := by
    obtain ⟨y, ey⟩ : ∃ y, ds[j]? = some y := ⟨ds[j], List.getElem?_eq_getElem (by omega)⟩
    have e : dItem (.list (iD ds)) (.int (j : Nat)) = .ok (.int ds[j]) := by
      rw [PL.item_listI (by omega) (by rw [List.length_map]; omega)]; simp
    rw [ex] at e
    injection e with e
    injection e with e
    rw [e]
    exact hd _ (List.getElem_mem _)
  obtain ⟨T, eT, sT⟩ := tags_is ws E (.tuple (N.map pD)) (.tuple (O.map pD)) lw x (by omega)
  have eT' : f__law_tags [formT ws E N O, .int x] = .ok (tT T) := eT
  obtain ⟨q, eq, _, dq, nq⟩ := an_ask_is (ws := ws) (E := E) (N := N) (O := O) (by omega) (ds := ds.drop (4 * j) ++ ds.take (4 * j)) (by simp; omega) (by simp; omega)
  have hT : ∀ t ∈ T, t ∈ ws := fun t ht => sT.subset ht
  have lT : T.length ≤ 20 := Nat.le_trans sT.length_le lw
  have rq := right_is (T := T) ac nd lO lE lN lT hT (a := q) dq nq
  have m4 : dMul (.int 4) (.int (j : Nat)) = .ok (.int ((4 * j : Nat) : Int)) := by
    rw [dMul_l _ (inMul_of (by omega) (by omega))]
    rw [Int.natCast_mul]; rfl
  have tr := fun (τ : PL.Env) (fd fn : PL.Env → PL.R D) (h1 : fd τ = .ok (.list (iD ds))) (h2 : fn τ = .ok (.int ((4 * j : Nat) : Int))) => show f2 dAdd (fSl fd (oSome fn) (oNone)) (fSl fd (oNone) (oSome fn)) τ = .ok (.list (iD (ds.drop (4 * j) ++ ds.take (4 * j)))) by
    have e1 : dSlice (.list (iD ds)) (some ((4 * j : Nat) : Int)) none = .ok (.list (iD (ds.drop (4 * j)))) := by rw [sl_from]; unfold iD; rw [List.map_drop]
    have e2 : dSlice (.list (iD ds)) none (some ((4 * j : Nat) : Int)) = .ok (.list (iD (ds.take (4 * j)))) := by rw [sl_to]; unfold iD; rw [List.map_take]
    have ad := (addLL (iD (ds.drop (4 * j))) (iD (ds.take (4 * j))) (by simp; omega)).1
    simp only [v_fVar0, v_fVarS, v_fC, v_f1, v_f2, v_fTru, v_tNotB, v_fNot, v_fNil, v_fCons, v_fTup, v_fLst, v_fCall, v_fSl, v_oNone, v_oSome, v_iSeq, v_iRange, PL.R.bind_ok, PL.R.calm_ok, dTruth_bool, h1, h2, dPart_int, e1, e2, ad]
    unfold iD
    rw [List.map_append]
  unfold lb1_law
  refine st_set (d := tT T) (by simp only [v_fVar0, v_fVarS, v_fC, v_f1, v_f2, v_fTru, v_tNotB, v_fNot, v_fNil, v_fCons, v_fTup, v_fLst, v_fCall, v_fSl, v_oNone, v_oSome, v_iSeq, v_iRange, PL.R.bind_ok, PL.R.calm_ok, dTruth_bool, ex, eT']) (st_set (d := q.enc) ?_ ?_)
  · simp only [List.set_cons_succ, List.set_cons_zero]
    have := tr [some s, some a, some (formT ws E N O), some (.list (iD ds)), some (.int (j : Nat)), some (tT T), none, none] (fVar 3) (f2 dMul (fC (.int 4)) (fVar 4)) (by simp only [v_fVar0, v_fVarS, v_fC, v_f1, v_f2, v_fTru, v_tNotB, v_fNot, v_fNil, v_fCons, v_fTup, v_fLst, v_fCall, v_fSl, v_oNone, v_oSome, v_iSeq, v_iRange, PL.R.bind_ok, PL.R.calm_ok, dTruth_bool]) (by simp only [v_fVar0, v_fVarS, v_fC, v_f1, v_f2, v_fTru, v_tNotB, v_fNot, v_fNil, v_fCons, v_fTup, v_fLst, v_fCall, v_fSl, v_oNone, v_oSome, v_iSeq, v_iRange, PL.R.bind_ok, PL.R.calm_ok, dTruth_bool, m4])
    rw [v_fCall, v_fCons, v_fCons, this]
    simp only [v_fVar0, v_fVarS, v_fC, v_f1, v_f2, v_fTru, v_tNotB, v_fNot, v_fNil, v_fCons, v_fTup, v_fLst, v_fCall, v_fSl, v_oNone, v_oSome, v_iSeq, v_iRange, PL.R.bind_ok, PL.R.calm_ok, dTruth_bool, eq]
  simp only [List.set_cons_succ, List.set_cons_zero]
  refine st_set (d := Ask.all.enc) rfl ?_
  simp only [List.set_cons_succ, List.set_cons_zero]
  have nz : dNe (.tuple (sD ws)) (.tuple []) = .ok (.bool (!decide (sD ws = []))) := neT_nil _
  have fin : ∀ u : Ask, u.dep ≤ 3 → (∀ z ∈ u.names, z ∈ ws ++ O.map (·.1)) → sSeq (sIf (tOrB (tNotB (fTru (fCall f__law_right (fCons (fVar 2) (fCons (fVar 5) (fCons (fVar 6) (fNil))))))) (tNotB (fTru (fCall f__law_right (fCons (fVar 2) (fCons (fVar 5) (fCons (fVar 7) (fNil)))))))) (sRet (fC (.bool false))) (sNext)) (sForget [5, 6, 7, 4]) [some s, some a, some (formT ws E N O), some (.list (iD ds)), some (.int (j : Nat)), some (tT T), some q.enc, some u.enc] = .ok (.nx [some s, some a, some (formT ws E N O), some (.list (iD ds)), none, none, none, none]) := fun u du nu => by
    have ru := right_is (T := T) ac nd lO lE lN lT hT (a := u) du nu
    refine st_ifF ?_ (st_next rfl)
    simp only [v_tOrB, v_fVar0, v_fVarS, v_fC, v_f1, v_f2, v_fTru, v_tNotB, v_fNot, v_fNil, v_fCons, v_fTup, v_fLst, v_fCall, v_fSl, v_oNone, v_oSome, v_iSeq, v_iRange, PL.R.bind_ok, PL.R.calm_ok, dTruth_bool, rq, ru]
    rfl
  by_cases hw : ws = []
  · refine st_ifF ?_ (st_next (fin .all (by simp [Ask.dep]) fun z hz => absurd hz List.not_mem_nil))
    have e : dItem (formT ws E N O) (.int 0) = .ok (.tuple (sD ws)) := rfl
    simp only [v_fVar0, v_fVarS, v_fC, v_f1, v_f2, v_fTru, v_tNotB, v_fNot, v_fNil, v_fCons, v_fTup, v_fLst, v_fCall, v_fSl, v_oNone, v_oSome, v_iSeq, v_iRange, PL.R.bind_ok, PL.R.calm_ok, dTruth_bool, e, nz, hw, List.map_nil]
    rfl
  · obtain ⟨e, he, ee⟩ := pick (xs := sD ws) (by simpa using hw) x
    obtain ⟨w, hw', rfl⟩ := List.mem_map.mp he
    have e0 : dItem (formT ws E N O) (.int 0) = .ok (.tuple (sD ws)) := rfl
    have hp := List.length_pos_iff.mpr hw
    have ee' : dItem (.tuple (sD ws)) (.int (x % ((sD ws).length : Int))) = .ok (.str w) := ee
    refine st_ifT (by simp only [v_fVar0, v_fVarS, v_fC, v_f1, v_f2, v_fTru, v_tNotB, v_fNot, v_fNil, v_fCons, v_fTup, v_fLst, v_fCall, v_fSl, v_oNone, v_oSome, v_iSeq, v_iRange, PL.R.bind_ok, PL.R.calm_ok, dTruth_bool, e0, nz]; rw [decide_eq_false (by simpa using hw)]; rfl) ?_
    refine st_set (d := (Ask.leaf 1 w).enc) ?_ ?_
    · have md : dMod (.int x) (.int ((sD ws).length : Int)) = .ok (.int (x % ((sD ws).length : Int))) := dMod_int (by rw [List.length_map]; omega)
      simp only [v_fVar0, v_fVarS, v_fC, v_f1, v_f2, v_fTru, v_tNotB, v_fNot, v_fNil, v_fCons, v_fTup, v_fLst, v_fCall, v_fSl, v_oNone, v_oSome, v_iSeq, v_iRange, PL.R.bind_ok, PL.R.calm_ok, dTruth_bool, e0, ex, dLen_tuple, md, ee']
      rfl
    · simp only [List.set_cons_succ, List.set_cons_zero]
      exact fin (.leaf 1 w) (by simp [Ask.dep]) fun z hz => by rw [List.mem_singleton.mp hz]; exact List.mem_append_left _ hw'
end
theorem at_turn (ns : List Int) (k : Nat) (hk : k ≤ 1000) : lb2_law [some (.list (iD ns)), some (.int k), none, none, none, none, none, none] = .ok (.nx [some (.list (iD ns)), none, none, none, none, none, none, none]) := by
  obtain ⟨os, B, N, O, bb, eb⟩ := a_book_is ns k (by omega) 8 (by omega)
  obtain ⟨ds, ed, hl, hd⟩ := draws_is ns (k + 1) (by omega) 60 (by omega) 27720 (by omega) (by omega)
  have eb' : f__law_a_book [.list (iD ns), .int k, .int 8] = .ok (formT (sortS os) (ssP B) (ssP N) O) := eb
  have ed' : f__law_draws [.list (iD ns), .int ((k + 1 : Nat) : Int), .int 60, .int 27720] = .ok (.list (iD ds)) := ed
  have a1 : dAdd (.int k) (.int 1) = .ok (.int ((k + 1 : Nat) : Int)) := by rw [dAdd_int]; rfl
  have lo := bb.len
  have lB := Nat.le_trans (ssP_len B) bb.lenB
  have lN := Nat.le_trans (ssP_len N) bb.lenN
  have ac : Acyc (ssP B) := acyc_up bb.nd fun p hp => bb.up p (mem_ssP.mp hp)
  have lw : (sortS os).length ≤ 20 := by rw [sortS_len]; omega
  have rw := right_is (ws := sortS os) (E := ssP B) (N := ssP N) (O := O) (T := sortS os) ac bb.keysO bb.fewO (by omega) (by omega) lw (fun _ h => h) (a := .all) (by simp [Ask.dep]) fun z hz => absurd hz List.not_mem_nil
  have rw' : f__law_right [formT (sortS os) (ssP B) (ssP N) O, .tuple (sD (sortS os)), .tuple [.str "all"]] = .ok (.bool true) := rw
  unfold lb2_law
  refine st_set (d := formT (sortS os) (ssP B) (ssP N) O) (by simp only [v_fVar0, v_fVarS, v_fC, v_f1, v_f2, v_fTru, v_tNotB, v_fNot, v_fNil, v_fCons, v_fTup, v_fLst, v_fCall, v_fSl, v_oNone, v_oSome, v_iSeq, v_iRange, PL.R.bind_ok, PL.R.calm_ok, dTruth_bool, eb']) (st_set (d := .list (iD ds)) (by simp only [List.set_cons_succ, List.set_cons_zero, v_fVar0, v_fVarS, v_fC, v_f1, v_f2, v_fTru, v_tNotB, v_fNot, v_fNil, v_fCons, v_fTup, v_fLst, v_fCall, v_fSl, v_oNone, v_oSome, v_iSeq, v_iRange, PL.R.bind_ok, PL.R.calm_ok, dTruth_bool, a1, ed']) ?_)
  simp only [List.set_cons_succ, List.set_cons_zero]
  refine st_for (ds := rng 0 12) (τ' := [some (.list (iD ns)), some (.int k), some (formT (sortS os) (ssP B) (ssP N) O), some (.list (iD ds)), none, none, none, none]) (range_d (n := 12) rfl (by omega)) ?_ ?_
  · rw [rng_nat]
    refine for_keep _ fun d hd' => ?_
    obtain ⟨j, hj, rfl⟩ := List.mem_map.mp hd'
    show (lb1_law _) = _
    exact turn_k (.list (iD ns)) (.int k) hl hd ac bb.keysO bb.fewO lw (by omega) (by omega) j (List.mem_range.mp hj)
  · refine st_ifF ?_ (st_next rfl)
    have e0 : dItem (formT (sortS os) (ssP B) (ssP N) O) (.int 0) = .ok (.tuple (sD (sortS os))) := rfl
    simp only [v_fVar0, v_fVarS, v_fC, v_f1, v_f2, v_fTru, v_tNotB, v_fNot, v_fNil, v_fCons, v_fTup, v_fLst, v_fCall, v_fSl, v_oNone, v_oSome, v_iSeq, v_iRange, PL.R.bind_ok, PL.R.calm_ok, dTruth_bool, e0, rw']
    rfl
theorem math : ∀ ns : List Int, ns.length ≤ 63 → f_law [.list (ns.map PyData.int)] = .ok (.bool true) := fun ns _ => by
  unfold f_law
  refine out_rt ?_
  unfold g_law
  have st : startE 8 [.list (ns.map PyData.int)] = [some (.list (iD ns)), none, none, none, none, none, none, none] := rfl
  rw [st]
  refine st_for (ds := [.int (0 : Nat), .int (2 : Nat), .int (4 : Nat)]) (τ' := [some (.list (iD ns)), none, none, none, none, none, none, none]) rfl ?_ (st_ret rfl)
  refine for_keep _ fun d hd => ?_
  simp only [List.mem_cons, List.not_mem_nil, or_false] at hd
  rcases hd with rfl | rfl | rfl
  · exact at_turn ns 0 (by omega)
  · exact at_turn ns 2 (by omega)
  · exact at_turn ns 4 (by omega)
end W
open PySem PySem.W PyProof.Rows
set_option maxHeartbeats 0 in
theorem PySem.Challenge.cw_broadword_k30_whole_lean_tags_holds : PySem.Challenge.rw_broadword_k30_whole_lean_tags.Holds := by
  w_on; o_law; k_head; (case hw => w_witness2)
  k_fill
  refine L2.walk_of (l := PySem.Challenge.rw_broadword_k30_whole_lean_tags) (n := 63) (k := 35) (x := "script") (CX := fun w => L2.CX PySem.Challenge.rw_broadword_k30_whole_lean_tags.prog w) (sp := fun w => PL.spLaw _) rfl (by decide) rfl ⟨rfl, by decide, by decide⟩ (fun w h Y => PySem.W.kIn_of Y) ?F (fun w H a ns hl hO hS => PL.spLaw_of hl hO hS) (fun _ _ _ _ _ h => PL.cx_none h)
  case F =>
    intro w mg fa h KX G hmg
    refine' W.all_mk KX G hmg W.math ?a0 ?l0 ?c0 ?k0 ?a1 ?l1 ?c1 ?k1 ?a2 ?l2 ?c2 ?k2 ?a3 ?l3 ?c3 ?k3 ?a4 ?l4 ?c4 ?k4 ?a5 ?l5 ?c5 ?k5 ?a6 ?l6 ?c6 ?k6 ?a7 ?l7 ?c7 ?k7 ?a8 ?l8 ?c8 ?k8 ?a9 ?l9 ?c9 ?k9 ?a10 ?l10 ?c10 ?k10 ?a11 ?l11 ?c11 ?k11 ?a12 ?l12 ?c12 ?k12 ?a13 ?l13 ?c13 ?k13 ?a14 ?l14 ?c14 ?k14 ?a15 ?l15 ?c15 ?k15 ?a16 ?l16 ?c16 ?k16 ?a17 ?l17 ?c17 ?k17 ?a18 ?l18 ?c18 ?k18 ?a19 ?l19 ?c19 ?k19 ?a20 ?l20 ?c20 ?k20 ?a21 ?l21 ?c21 ?k21 ?a22 ?l22 ?c22 ?k22 ?a23 ?l23 ?c23 ?k23 ?z_len ?z_isinstance ?z_tuple ?z_list ?z_dict ?z_set ?z_str ?z_int ?z_bool ?z_all ?z_any ?z_sum ?z_max ?z_min ?z_sorted ?z_range ?z_zip ?z_enumerate ?i_NAMED ?o_NAMED ?v_NAMED
    (case a0 => k_is)
    (case l0 => k_is)
    (case c0 => k_is)
    (case k0 => k_is)
    (case a1 => k_is)
    (case l1 => k_is)
    (case c1 => k_is)
    (case k1 => k_is)
    (case a2 => k_is)
    (case l2 => k_is)
    (case c2 => k_is)
    (case k2 => k_is)
    (case a3 => k_is)
    (case l3 => k_is)
    (case c3 => k_is)
    (case k3 => k_is)
    (case a4 => k_is)
    (case l4 => k_is)
    (case c4 => k_is)
    (case k4 => k_is)
    (case a5 => k_is)
    (case l5 => k_is)
    (case c5 => k_is)
    (case k5 => k_is)
    (case a6 => k_is)
    (case l6 => k_is)
    (case c6 => k_is)
    (case k6 => k_is)
    (case a7 => k_is)
    (case l7 => k_is)
    (case c7 => k_is)
    (case k7 => k_is)
    (case a8 => k_is)
    (case l8 => k_is)
    (case c8 => k_is)
    (case k8 => k_is)
    (case a9 => k_is)
    (case l9 => k_is)
    (case c9 => k_is)
    (case k9 => k_is)
    (case a10 => k_is)
    (case l10 => k_is)
    (case c10 => k_is)
    (case k10 => k_is)
    (case a11 => k_is)
    (case l11 => k_is)
    (case c11 => k_is)
    (case k11 => k_is)
    (case a12 => k_is)
    (case l12 => k_is)
    (case c12 => k_is)
    (case k12 => k_is)
    (case a13 => k_is)
    (case l13 => k_is)
    (case c13 => k_is)
    (case k13 => k_is)
    (case a14 => k_is)
    (case l14 => k_is)
    (case c14 => k_is)
    (case k14 => k_is)
    (case a15 => k_is)
    (case l15 => k_is)
    (case c15 => k_is)
    (case k15 => k_is)
    (case a16 => k_is)
    (case l16 => k_is)
    (case c16 => k_is)
    (case k16 => k_is)
    (case a17 => k_is)
    (case l17 => k_is)
    (case c17 => k_is)
    (case k17 => k_is)
    (case a18 => k_is)
    (case l18 => k_is)
    (case c18 => k_is)
    (case k18 => k_is)
    (case a19 => k_is)
    (case l19 => k_is)
    (case c19 => k_is)
    (case k19 => k_is)
    (case a20 => k_is)
    (case l20 => k_is)
    (case c20 => k_is)
    (case k20 => k_is)
    (case a21 => k_is)
    (case l21 => k_is)
    (case c21 => k_is)
    (case k21 => k_is)
    (case a22 => k_is)
    (case l22 => k_is)
    (case c22 => k_is)
    (case k22 => k_is)
    (case a23 => k_is)
    (case l23 => k_is)
    (case c23 => k_is)
    (case k23 => k_is)
    (case z_len => k_is)
    (case z_isinstance => k_is)
    (case z_tuple => k_is)
    (case z_list => k_is)
    (case z_dict => k_is)
    (case z_set => k_is)
    (case z_str => k_is)
    (case z_int => k_is)
    (case z_bool => k_is)
    (case z_all => k_is)
    (case z_any => k_is)
    (case z_sum => k_is)
    (case z_max => k_is)
    (case z_min => k_is)
    (case z_sorted => k_is)
    (case z_range => k_is)
    (case z_zip => k_is)
    (case z_enumerate => k_is)
    (case i_NAMED => k_is)
    (case o_NAMED => k_is)
    (case v_NAMED => rfl)
