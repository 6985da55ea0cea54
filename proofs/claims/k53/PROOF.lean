import PyProof.Rows.All
import Wide.All
import OpenK.AllK
import Wide.FinOn
import PySem.Challenge.RW_wallsaswished_k53_whole_rims_and_areas
import HandS.ForMost
import HandS.Wide
import HandS.IsInst
import HandS.Zip
import HandS.DictComp
import HandS.SortInts
import HandS.Sort
import HandS.EndBits
import HandS.TupAny
import HandS.Style
import HandS.Small
import HandS.Deep
import HandS.Conv
import HandS.More
section
open PySem PySem.Spec PyProof.Rows L2
set_option Elab.async false
set_option linter.all false
set_option maxRecDepth 100000
namespace DD

/-! values as data: tuples inline, changeable things by their address -/
inductive D where
  | non
  | bl (b : Bool)
  | int (i : Int)
  | str (x : Str)
  | ty (n : String)
  | tup (ds : List D)
  | rol (ds : List D)
  | obj (a : Addr)

/-- what stays for ever: tuples, locked things -/
structure Stay (H H' : Hp) : Prop where
  tup : ∀ a xs, H a = some (.tup xs) → H' a = some (.tup xs)
  frz : ∀ a o u, H a = some (.frz o u) → H' a = some (.frz o u)
theorem Stay.refl (H : Hp) : Stay H H := ⟨fun _ _ h => h, fun _ _ _ h => h⟩
theorem Stay.trans {H H1 H2 : Hp} (a : Stay H H1) (b : Stay H1 H2) : Stay H H2 :=
  ⟨fun c o h => b.tup c o (a.tup c o h), fun c o u h => b.frz c o u (a.frz c o u h)⟩
theorem Stay.new {H : Hp} {p : Addr} {o : HO} (h : H p = none) : Stay H (upd H p o) :=
  ⟨fun a xs e => by rw [upd_ne (ne_of_none e h)]; exact e, fun a x u e => by rw [upd_ne (ne_of_none e h)]; exact e⟩
theorem Stay.put {H : Hp} {p : Addr} {o u : HO} (h : H p = some u) (m : Mut (some u)) : Stay H (upd H p o) := by
  refine ⟨fun a xs e => ?_, fun a x v e => ?_⟩
  · by_cases c : a = p
    · subst c; rw [e] at h; cases h; exact m.elim
    · rw [upd_ne c]; exact e
  · by_cases c : a = p
    · subst c; rw [e] at h; cases h; exact m.elim
    · rw [upd_ne c]; exact e
theorem Stay.sqT {K : PySem.W.Frag} {H H' : Hp} {a : Addr} {xs : List V} (s : Stay H H') (h : SqT K H a xs) : SqT K H' a xs := by
  rcases h with (h | ⟨o, h⟩) | h
  · exact .inl (.inl (s.tup _ _ h))
  · exact .inl (.inr ⟨o, s.frz _ _ _ h⟩)
  · exact .inr h
/-- a list that nobody changes -/
def RoL (K : PySem.W.Frag) (H : Hp) (a : Addr) (xs : List V) : Prop := ∀ H', Stay H H' → SqL K H' a xs
theorem RoL.stay {K : PySem.W.Frag} {H H' : Hp} {a : Addr} {xs : List V} (h : RoL K H a xs) (s : Stay H H') : RoL K H' a xs := fun H2 t => h H2 (s.trans t)

mutual
inductive Rep (K : PySem.W.Frag) (H : Hp) : V → D → Prop
  | non : Rep K H .non .non
  | bl (b : Bool) : Rep K H (.bl b) (.bl b)
  | int (i : Int) : Rep K H (.int i) (.int i)
  | str (x : Str) : Rep K H (.str x) (.str x)
  | ty (n : String) : Rep K H (.ty n) (.ty n)
  | tup {a : Addr} {xs : List V} {ds : List D} (h : SqT K H a xs) (r : Reps K H xs ds) : Rep K H (.ref a) (.tup ds)
  | rol {a : Addr} {xs : List V} {ds : List D} (h : RoL K H a xs) (r : Reps K H xs ds) : Rep K H (.ref a) (.rol ds)
  | obj (a : Addr) : Rep K H (.ref a) (.obj a)
inductive Reps (K : PySem.W.Frag) (H : Hp) : List V → List D → Prop
  | nil : Reps K H [] []
  | cons {x : V} {d : D} {xs : List V} {ds : List D} (h : Rep K H x d) (t : Reps K H xs ds) : Reps K H (x :: xs) (d :: ds)
end

section
variable {K : PySem.W.Frag} {H H' : Hp}
mutual
theorem Rep.stay (s : Stay H H') : ∀ {v : V} {d : D}, Rep K H v d → Rep K H' v d
  | _, _, .non => .non
  | _, _, .bl b => .bl b
  | _, _, .int i => .int i
  | _, _, .str x => .str x
  | _, _, .ty n => .ty n
  | _, _, .tup h r => .tup (s.sqT h) (Reps.stay s r)
  | _, _, .rol h r => .rol (h.stay s) (Reps.stay s r)
  | _, _, .obj a => .obj a
theorem Reps.stay (s : Stay H H') : ∀ {vs : List V} {ds : List D}, Reps K H vs ds → Reps K H' vs ds
  | _, _, .nil => .nil
  | _, _, .cons h t => .cons (Rep.stay s h) (Reps.stay s t)
end
theorem Reps.length : ∀ {vs : List V} {ds : List D}, Reps K H vs ds → vs.length = ds.length
  | _, _, .nil => rfl
  | _, _, .cons _ t => by rw [List.length_cons, List.length_cons, Reps.length t]
theorem Reps.get : ∀ {vs : List V} {ds : List D} {i : Nat} {d : D}, Reps K H vs ds → ds[i]? = some d → ∃ v, vs[i]? = some v ∧ Rep K H v d
  | _, _, _, _, .nil, e => by simp at e
  | _, _, 0, d, .cons h _, e => by
    rw [List.getElem?_cons_zero] at e
    cases e
    exact ⟨_, rfl, h⟩
  | _, _, i + 1, d, .cons _ t, e => by
    rw [List.getElem?_cons_succ] at e
    obtain ⟨v, h1, h2⟩ := Reps.get t e
    exact ⟨v, by rw [List.getElem?_cons_succ]; exact h1, h2⟩
theorem Reps.getV : ∀ {vs : List V} {ds : List D} {i : Nat} {v : V}, Reps K H vs ds → vs[i]? = some v → ∃ d, ds[i]? = some d ∧ Rep K H v d
  | _, _, _, _, .nil, e => by simp at e
  | _, _, 0, d, .cons h _, e => by
    rw [List.getElem?_cons_zero] at e
    cases e
    exact ⟨_, rfl, h⟩
  | _, _, i + 1, d, .cons _ t, e => by
    rw [List.getElem?_cons_succ] at e
    obtain ⟨v, h1, h2⟩ := Reps.getV t e
    exact ⟨v, by rw [List.getElem?_cons_succ]; exact h1, h2⟩
theorem Reps.append : ∀ {vs ws : List V} {ds es : List D}, Reps K H vs ds → Reps K H ws es → Reps K H (vs ++ ws) (ds ++ es)
  | _, _, _, _, .nil, s => s
  | _, _, _, _, .cons h t, s => .cons h (Reps.append t s)
theorem Reps.take : ∀ {vs : List V} {ds : List D} (n : Nat), Reps K H vs ds → Reps K H (vs.take n) (ds.take n)
  | _, _, 0, _ => .nil
  | _, _, _ + 1, .nil => .nil
  | _, _, n + 1, .cons h t => .cons h (Reps.take n t)
theorem Reps.drop : ∀ {vs : List V} {ds : List D} (n : Nat), Reps K H vs ds → Reps K H (vs.drop n) (ds.drop n)
  | _, _, 0, r => r
  | _, _, _ + 1, .nil => .nil
  | _, _, n + 1, .cons _ t => Reps.drop n t
theorem Reps.set : ∀ {vs : List V} {ds : List D} (i : Nat) {x : V} {d : D}, Reps K H vs ds → Rep K H x d → Reps K H (vs.set i x) (ds.set i d)
  | _, _, _, _, _, .nil, _ => .nil
  | _, _, 0, _, _, .cons _ t, q => .cons q t
  | _, _, n + 1, _, _, .cons h t, q => .cons h (Reps.set n t q)
theorem Reps.erase : ∀ {vs : List V} {ds : List D} (n : Nat), Reps K H vs ds → Reps K H (vs.eraseIdx n) (ds.eraseIdx n)
  | _, _, _, .nil => .nil
  | _, _, 0, .cons _ t => t
  | _, _, n + 1, .cons h t => .cons h (Reps.erase n t)
theorem Reps.reverse : ∀ {vs : List V} {ds : List D}, Reps K H vs ds → Reps K H vs.reverse ds.reverse
  | _, _, .nil => .nil
  | _, _, .cons h t => by
    rw [List.reverse_cons, List.reverse_cons]
    exact (Reps.reverse t).append (.cons h .nil)
theorem Reps.dropLast {vs : List V} {ds : List D} (r : Reps K H vs ds) : Reps K H vs.dropLast ds.dropLast := by
  rw [List.dropLast_eq_take, List.dropLast_eq_take, r.length]
  exact r.take _
theorem Reps.ints : ∀ {vs : List V} {ns : List Int}, Reps K H vs (ns.map D.int) → vs = ns.map V.int
  | _, [], .nil => rfl
  | _, n :: ns, .cons (.int _) t => by rw [List.map_cons, Reps.ints t]
theorem Reps.strs : ∀ {vs : List V} {ns : List Str}, Reps K H vs (ns.map D.str) → vs = ns.map V.str
  | _, [], .nil => rfl
  | _, n :: ns, .cons (.str _) t => by rw [List.map_cons, Reps.strs t]
theorem Reps.bls : ∀ {vs : List V} {ns : List Bool}, Reps K H vs (ns.map D.bl) → vs = ns.map V.bl
  | _, [], .nil => rfl
  | _, n :: ns, .cons (.bl _) t => by rw [List.map_cons, Reps.bls t]
theorem reps_ints : ∀ (ns : List Int), Reps K H (ns.map V.int) (ns.map D.int)
  | [] => .nil
  | n :: ns => .cons (.int n) (reps_ints ns)
theorem reps_strs : ∀ (ns : List Str), Reps K H (ns.map V.str) (ns.map D.str)
  | [] => .nil
  | n :: ns => .cons (.str n) (reps_strs ns)
end

/-! what stands at a changeable address -/
inductive MO where
  | lst (ds : List D)
  | dK (kvs : List (Key × D))
  | dT (kvs : List (List Key × D))
abbrev Mu := Addr → Option MO
def put (μ : Mu) (a : Addr) (m : MO) : Mu := fun b => if b = a then some m else μ b
theorem put_same {μ : Mu} {a : Addr} {m : MO} : put μ a m a = some m := by unfold put; rw [if_pos rfl]
theorem put_ne {μ : Mu} {a b : Addr} {m : MO} (h : b ≠ a) : put μ a m b = μ b := by unfold put; rw [if_neg h]
theorem put_put {μ : Mu} {a : Addr} {m n : MO} : put (put μ a m) a n = put μ a n := by
  funext b; unfold put; split <;> rfl
def Sub (μ μ' : Mu) : Prop := ∀ a m, μ a = some m → μ' a = some m
theorem Sub.refl (μ : Mu) : Sub μ μ := fun _ _ h => h
theorem Sub.trans {μ μ1 μ2 : Mu} (a : Sub μ μ1) (b : Sub μ1 μ2) : Sub μ μ2 := fun c m h => b c m (a c m h)
theorem Sub.new {μ : Mu} {p : Addr} {m : MO} (h : μ p = none) : Sub μ (put μ p m) := fun a n e => by
  have : a ≠ p := fun z => by subst z; rw [h] at e; cases e
  rw [put_ne this]; exact e
theorem Sub.put {μ μ' : Mu} {p : Addr} {m : MO} (h : Sub μ μ') : Sub (put μ p m) (put μ' p m) := fun a n e => by
  by_cases c : a = p
  · subst c; rw [put_same] at e ⊢; exact e
  · rw [put_ne c] at e ⊢; exact h a n e

abbrev KRep {κ : Type} (K : PySem.W.Frag) (H : Hp) : List (κ × V) → List (κ × D) → Prop := Paired fun p q => p.1 = q.1 ∧ Rep K H p.2 q.2
theorem KRep.stay {κ : Type} {K : PySem.W.Frag} {H H' : Hp} (s : Stay H H') {a : List (κ × V)} {b : List (κ × D)} (r : KRep K H a b) : KRep K H' a b :=
  Paired.mapP r fun _ _ z => ⟨z.1, z.2.stay s⟩
def MRep (K : PySem.W.Frag) (H : Hp) (a : Addr) : MO → Prop
  | .lst ds => ∃ xs, H a = some (.lst xs) ∧ Reps K H xs ds
  | .dK kvs => ∃ ks, H a = some (.dK ks) ∧ KRep K H ks kvs
  | .dT kvs => ∃ ks, H a = some (.dT ks) ∧ KRep K H ks kvs
def Rel (K : PySem.W.Frag) (H : Hp) (μ : Mu) : Prop := ∀ a m, μ a = some m → MRep K H a m
theorem MRep.some {K : PySem.W.Frag} {H : Hp} {a : Addr} {m : MO} (h : MRep K H a m) : ∃ o, H a = some o ∧ Mut (some o) := by
  cases m with
  | lst ds => obtain ⟨xs, e, _⟩ := h; exact ⟨_, e, True.intro⟩
  | dK ds => obtain ⟨xs, e, _⟩ := h; exact ⟨_, e, True.intro⟩
  | dT ds => obtain ⟨xs, e, _⟩ := h; exact ⟨_, e, True.intro⟩
theorem MRep.move {K : PySem.W.Frag} {H H' : Hp} {a : Addr} {m : MO} (h : MRep K H a m) (s : Stay H H') (e : H' a = H a) : MRep K H' a m := by
  cases m with
  | lst ds => obtain ⟨xs, e2, r⟩ := h; exact ⟨xs, e.trans e2, r.stay s⟩
  | dK ds => obtain ⟨xs, e2, r⟩ := h; exact ⟨xs, e.trans e2, r.stay s⟩
  | dT ds => obtain ⟨xs, e2, r⟩ := h; exact ⟨xs, e.trans e2, r.stay s⟩
theorem Rel.free {K : PySem.W.Frag} {H : Hp} {μ : Mu} (r : Rel K H μ) {p : Addr} (h : H p = none) : μ p = none := by
  cases q : μ p with
  | none => rfl
  | some m =>
    obtain ⟨o, e, _⟩ := (r p m q).some
    rw [h] at e; cases e
theorem Rel.sub {K : PySem.W.Frag} {H : Hp} {μ μ' : Mu} (r : Rel K H μ) (s : Sub μ' μ) : Rel K H μ' := fun a m e => r a m (s a m e)
/-- a new untracked thing (a tuple) -/
theorem Rel.newT {K : PySem.W.Frag} {H : Hp} {μ : Mu} (r : Rel K H μ) {p : Addr} {o : HO} (h : H p = none) : Rel K (upd H p o) μ := fun a m e => by
  obtain ⟨u, z, _⟩ := (r a m e).some
  exact (r a m e).move (Stay.new h) (upd_ne (ne_of_none z h))
/-- a new changeable thing -/
theorem Rel.new {K : PySem.W.Frag} {H : Hp} {μ : Mu} (r : Rel K H μ) {p : Addr} {o : HO} {m : MO} (h : H p = none) (n : MRep K (upd H p o) p m) : Rel K (upd H p o) (put μ p m) := fun a k e => by
  by_cases c : a = p
  · subst c; rw [put_same] at e; cases e; exact n
  · rw [put_ne c] at e; exact r.newT h a k e
/-- a changeable thing is written -/
theorem Rel.wr {K : PySem.W.Frag} {H : Hp} {μ : Mu} (r : Rel K H μ) {p : Addr} {o u : HO} {m : MO} (h : H p = some u) (mu : Mut (some u)) (n : MRep K (upd H p o) p m) : Rel K (upd H p o) (put μ p m) := fun a k e => by
  by_cases c : a = p
  · subst c; rw [put_same] at e; cases e; exact n
  · rw [put_ne c] at e
    exact (r a k e).move (Stay.put h mu) (upd_ne c)

/-! slots -/
abbrev DSt := List (Option D)
structure RelS (K : PySem.W.Frag) (H : Hp) (σ : L2.St) (s : DSt) : Prop where
  len : List.length σ = List.length s
  get : ∀ (i : Nat) (d : D), s[i]? = some (some d) → ∃ v, σ[i]? = some (some v) ∧ Rep K H v d
theorem RelS.stay {K : PySem.W.Frag} {H H' : Hp} {σ : L2.St} {s : DSt} (r : RelS K H σ s) (t : Stay H H') : RelS K H' σ s :=
  ⟨r.len, fun i d e => let ⟨v, a, b⟩ := r.get i d e; ⟨v, a, b.stay t⟩⟩
theorem RelS.set {K : PySem.W.Frag} {H : Hp} {σ : L2.St} {s : DSt} (r : RelS K H σ s) {i : Nat} {v : V} {d : D} (h : Rep K H v d) : RelS K H (σ.set i (some v)) (s.set i (some d)) := by
  refine ⟨by rw [List.length_set, List.length_set, r.len], fun j e q => ?_⟩
  by_cases c : i = j
  · subst c
    have hl : i < s.length := by
      have := (List.getElem?_eq_some_iff.mp q).1
      rw [List.length_set] at this; exact this
    rw [List.getElem?_set_self hl] at q
    cases q
    exact ⟨v, by rw [List.getElem?_set_self (by rw [r.len]; exact hl)], h⟩
  · rw [List.getElem?_set_ne c] at q ⊢
    exact r.get j e q

/-! readings over data, and how they are lifted -/
abbrev DK := D → Mu → Prop
abbrev DE := DSt → Mu → DK → Prop
abbrev DT := DSt → Mu → (Bool → Mu → Prop) → Prop
abbrev DA := DSt → Mu → (List D → Mu → Prop) → Prop
structure DEnds where
  nx : DSt → Mu → Prop
  rt : DK
  bk : DSt → Mu → Prop := fun _ _ => False
  ct : DSt → Mu → Prop := fun _ _ => False
abbrev DS := DEnds → DSt → Mu → Prop
abbrev DG := D → DSt → Mu → (DSt → Mu → Prop) → Prop
abbrev DGs := List D → DSt → Mu → (DSt → Mu → Prop) → Prop

def lE (K : PySem.W.Frag) (t : DE) : TE := fun σ H Q => ∃ s μ Qd, RelS K H σ s ∧ Rel K H μ ∧ t s μ Qd ∧ ∀ v H' d μ', Stay H H' → Rel K H' μ' → Rep K H' v d → Qd d μ' → Q v H'
def lT (K : PySem.W.Frag) (t : DT) : TT := fun σ H Q => ∃ s μ Qd, RelS K H σ s ∧ Rel K H μ ∧ t s μ Qd ∧ ∀ b H' μ', Stay H H' → Rel K H' μ' → Qd b μ' → Q b H'
def lA (K : PySem.W.Frag) (t : DA) : TA := fun σ H Q => ∃ s μ Qd, RelS K H σ s ∧ Rel K H μ ∧ t s μ Qd ∧ ∀ vs H' ds μ', Stay H H' → Rel K H' μ' → Reps K H' vs ds → Qd ds μ' → Q vs H'
def lS (K : PySem.W.Frag) (t : DS) : TS := fun E σ H => ∃ s μ Ed, RelS K H σ s ∧ Rel K H μ ∧ t Ed s μ ∧
  (∀ σ' H' s' μ', Stay H H' → RelS K H' σ' s' → Rel K H' μ' → Ed.nx s' μ' → E.nx σ' H') ∧
  (∀ v H' d μ', Stay H H' → Rel K H' μ' → Rep K H' v d → Ed.rt d μ' → E.rt v H') ∧
  (∀ σ' H' s' μ', Stay H H' → RelS K H' σ' s' → Rel K H' μ' → Ed.bk s' μ' → E.bk σ' H') ∧
  (∀ σ' H' s' μ', Stay H H' → RelS K H' σ' s' → Rel K H' μ' → Ed.ct s' μ' → E.ct σ' H')
def lG (K : PySem.W.Frag) (g : DG) : TG := fun v σ H Q => ∃ d s μ Qd, Rep K H v d ∧ RelS K H σ s ∧ Rel K H μ ∧ g d s μ Qd ∧ ∀ σ' H' s' μ', Stay H H' → RelS K H' σ' s' → Rel K H' μ' → Qd s' μ' → Q σ' H'
def lGs (K : PySem.W.Frag) (g : DGs) : TGs := fun vs σ H Q => ∃ ds s μ Qd, Reps K H vs ds ∧ RelS K H σ s ∧ Rel K H μ ∧ g ds s μ Qd ∧ ∀ σ' H' s' μ', Stay H H' → RelS K H' σ' s' → Rel K H' μ' → Qd s' μ' → Q σ' H'
section
variable {X : Cx}
theorem imp_E {e : Expr} {t t' : TE} (h : PE X e t) (i : ∀ σ H Q, t' σ H Q → t σ H Q) : PE X e t' := ⟨fun pins s σ H Q I q => h.run pins s σ H Q I (i _ _ _ q)⟩
theorem imp_T {e : Expr} {t t' : TT} (h : PT X e t) (i : ∀ σ H Q, t' σ H Q → t σ H Q) : PT X e t' := ⟨fun pins s σ H Q I q => h.run pins s σ H Q I (i _ _ _ q)⟩
theorem imp_W {e : Expr} {t t' : TT} (h : PW X e t) (i : ∀ σ H Q, t' σ H Q → t σ H Q) : PW X e t' := ⟨fun w pins s σ H Q I q => h.run w pins s σ H Q I (i _ _ _ q)⟩
theorem imp_A {e : List Expr} {t t' : TA} (h : PA X e t) (i : ∀ σ H Q, t' σ H Q → t σ H Q) : PA X e t' := ⟨fun pos pins s σ H Q I q => h.run pos pins s σ H Q I (i _ _ _ q)⟩
theorem imp_S {e : Stmt} {t t' : TS} (h : PS X e t) (i : ∀ E σ H, t' E σ H → t E σ H) : PS X e t' := ⟨fun pins s σ H E I q => h.run pins s σ H E I (i _ _ _ q)⟩
theorem imp_Ss {e : List Stmt} {t t' : TS} (h : PSs X e t) (i : ∀ E σ H, t' E σ H → t E σ H) : PSs X e t' := ⟨fun pins s σ H E I q => h.run pins s σ H E I (i _ _ _ q)⟩
theorem imp_G {e : Expr} {t t' : TG} (h : PG X e t) (i : ∀ v σ H Q, t' v σ H Q → t v σ H Q) : PG X e t' := ⟨fun pins s σ H v u Q I r q => h.run pins s σ H v u Q I r (i _ _ _ _ q)⟩
theorem imp_Gs {e : List Expr} {t t' : TGs} (h : PGs X e t) (i : ∀ v σ H Q, t' v σ H Q → t v σ H Q) : PGs X e t' := ⟨fun pins s σ H v u Q I r q => h.run pins s σ H v u Q I r (i _ _ _ _ q)⟩
end
end DD
end
section
open PySem PySem.Spec PyProof.Rows L2
set_option Elab.async false
set_option linter.all false
set_option maxRecDepth 100000
namespace DD

/-- what is wanted of a value, for data and for the values themselves -/
def Fin (K : PySem.W.Frag) (H : Hp) (Qd : DK) (Q : VK) : Prop := ∀ v H' d μ', Stay H H' → Rel K H' μ' → Rep K H' v d → Qd d μ' → Q v H'
theorem Fin.stay {K : PySem.W.Frag} {H H1 : Hp} {Qd : DK} {Q : VK} (f : Fin K H Qd Q) (s : Stay H H1) : Fin K H1 Qd Q := fun v H' d μ' t => f v H' d μ' (s.trans t)
theorem Fin.now {K : PySem.W.Frag} {H : Hp} {μ : Mu} {Qd : DK} {Q : VK} {v : V} {d : D} (f : Fin K H Qd Q) (r : Rel K H μ) (p : Rep K H v d) (q : Qd d μ) : Q v H := f v H d μ (Stay.refl H) r p q
/-- a new tuple -/
theorem Fin.newT {K : PySem.W.Frag} {H : Hp} {μ : Mu} {Qd : DK} {Q : VK} {p : Addr} {xs : List V} {ds : List D} (f : Fin K H Qd Q) (r : Rel K H μ) (h : H p = none) (rs : Reps K H xs ds) (q : Qd (.tup ds) μ) : Q (.ref p) (upd H p (.tup xs)) :=
  f _ _ _ μ (Stay.new h) (r.newT h) (.tup (SqT.of upd_same) (rs.stay (Stay.new h))) q
/-- a new list -/
theorem Fin.newL {K : PySem.W.Frag} {H : Hp} {μ : Mu} {Qd : DK} {Q : VK} {p : Addr} {xs : List V} {ds : List D} (f : Fin K H Qd Q) (r : Rel K H μ) (h : H p = none) (rs : Reps K H xs ds) (q : Qd (.obj p) (put μ p (.lst ds))) : Q (.ref p) (upd H p (.lst xs)) :=
  f _ _ _ _ (Stay.new h) (r.new (m := .lst ds) h (show MRep K _ p (.lst ds) from ⟨xs, upd_same, rs.stay (Stay.new h)⟩)) (.obj p) q
/-- a new dict -/
theorem Fin.newD {K : PySem.W.Frag} {H : Hp} {μ : Mu} {Qd : DK} {Q : VK} {p : Addr} {xs : List (Key × V)} {ds : List (Key × D)} (f : Fin K H Qd Q) (r : Rel K H μ) (h : H p = none) (rs : KRep K H xs ds) (q : Qd (.obj p) (put μ p (.dK ds))) : Q (.ref p) (upd H p (.dK xs)) :=
  f _ _ _ _ (Stay.new h) (r.new (m := .dK ds) h (show MRep K _ p (.dK ds) from ⟨xs, upd_same, rs.stay (Stay.new h)⟩)) (.obj p) q
theorem Rel.lst {K : PySem.W.Frag} {H : Hp} {μ : Mu} {a : Addr} {ds : List D} (r : Rel K H μ) (h : μ a = some (.lst ds)) : ∃ xs, H a = some (.lst xs) ∧ Reps K H xs ds := r a _ h
theorem Rel.dk {K : PySem.W.Frag} {H : Hp} {μ : Mu} {a : Addr} {ds : List (Key × D)} (r : Rel K H μ) (h : μ a = some (.dK ds)) : ∃ xs, H a = some (.dK xs) ∧ KRep K H xs ds := r a _ h
theorem Rel.wrL {K : PySem.W.Frag} {H : Hp} {μ : Mu} {p : Addr} {xs ys : List V} {ds : List D} (r : Rel K H μ) (h : H p = some (.lst xs)) (rs : Reps K H ys ds) : Rel K (upd H p (.lst ys)) (put μ p (.lst ds)) :=
  r.wr h True.intro ⟨ys, upd_same, rs.stay (Stay.put h True.intro)⟩
theorem Rel.wrD {K : PySem.W.Frag} {H : Hp} {μ : Mu} {p : Addr} {xs ys : List (Key × V)} {ds : List (Key × D)} (r : Rel K H μ) (h : H p = some (.dK xs)) (rs : KRep K H ys ds) : Rel K (upd H p (.dK ys)) (put μ p (.dK ds)) :=
  r.wr h True.intro ⟨ys, upd_same, rs.stay (Stay.put h True.intro)⟩

/-! names, constants -/
def dVar (i : Nat) : DE := fun s μ Q => match s[i]? with
  | some (some d) => Q d μ
  | _ => False
def dC (d : D) : DE := fun _ μ Q => Q d μ
section
variable {X : Cx}
theorem d_var (i : Nat) {x : Str} {pos : Pos} (hN : X.N[i]? = some x := by rfl) (hv : Vis X.env.scope x := by first | exact Or.inl rfl | exact Or.inr (Or.inl rfl) | exact Or.inr (Or.inr rfl))
    (hd : (x == ("__debug__" : Str)) = false := by decide) (hc : (x == ("__classdict__" : Str)) = false := by decide) : PE X (.Name x pos) (lE X.K (dVar i)) := by
  refine imp_E (pe_var hN hv hd hc) fun σ H Q ⟨s, μ, Qd, rs, rm, t, fin⟩ => ?_
  unfold dVar at t
  split at t
  · rename_i d e
    obtain ⟨v, e2, r⟩ := rs.get i d e
    exact ⟨v, e2, fin v H d μ (Stay.refl H) rm r t⟩
  · exact t.elim
theorem lE_C {v : V} {d : D} (h : ∀ K H, Rep K H v d) : ∀ σ H Q, lE X.K (dC d) σ H Q → tC v σ H Q := fun σ H Q ⟨s, μ, Qd, rs, rm, t, fin⟩ => fin v H d μ (Stay.refl H) rm (h _ _) t
theorem d_int {i j pos} : PE X (.Constant (.int i) j pos) (lE X.K (dC (.int i))) := imp_E pe_int (lE_C fun _ _ => .int i)
theorem d_bl {b j pos} : PE X (.Constant (.bool b) j pos) (lE X.K (dC (.bl b))) := imp_E pe_bl (lE_C fun _ _ => .bl b)
theorem d_non {j pos} : PE X (.Constant .none j pos) (lE X.K (dC .non)) := imp_E pe_non (lE_C fun _ _ => .non)
theorem d_str {x j pos} : PE X (.Constant (.str x) j pos) (lE X.K (dC (.str x))) := imp_E pe_str (lE_C fun _ _ => .str x)
theorem d_ty {x : Str} {n : String} {pos : Pos} (hg : Gl X x) (hm : X.mg x = none) (hv : bootBuiltins x = some (.type n)) (hn : x ≠ "__name__" := by decide) (hd : (x == ("__debug__" : Str)) = false := by decide) : PE X (.Name x pos) (lE X.K (dC (.ty n))) :=
  imp_E (pe_bltn (v := .ty n) hg hm hv rfl hn hd) (lE_C fun _ _ => .ty n)
/-- a constant of the module -/
theorem d_glob {x : Str} {v : V} {d : D} {u : Value} {pos : Pos} (hg : Gl X x) (hm : X.mg x = some u) (r : RelV v u) (h : ∀ H, Rep X.K H v d) (hd : (x == ("__debug__" : Str)) = false := by decide) : PE X (.Name x pos) (lE X.K (dC d)) :=
  imp_E (pe_glob hg hm r hd) fun σ H Q ⟨s, μ, Qd, rs, rm, t, fin⟩ => fin v H d μ (Stay.refl H) rm (h _) t
end

/-! operators by values -/
abbrev D2 := D → D → Mu → DK → Prop
def OpD (K : PySem.W.Frag) (r : R2) (rD : D2) : Prop := ∀ x y dx dy H μ Q Qd, Rep K H x dx → Rep K H y dy → Rel K H μ → rD dx dy μ Qd → Fin K H Qd Q → r x y H Q
def dOp (rD : D2) (ta tb : DE) : DE := fun s μ Q => ta s μ fun x μ1 => tb s μ1 fun y μ2 => rD x y μ2 Q
/-- a bool, an int -/
def asB (d : D) (P : Bool → Prop) : Prop := match d with
  | .bl c => P c
  | _ => False
def asI (d : D) (P : Int → Prop) : Prop := match d with
  | .int c => P c
  | _ => False
theorem asB_of {K : PySem.W.Frag} {H : Hp} {x : V} {d : D} {P : Bool → Prop} (r : Rep K H x d) (h : asB d P) : ∃ c, x = .bl c ∧ d = .bl c ∧ P c := by
  cases r <;> first | exact ⟨_, rfl, rfl, h⟩ | exact (show False from h).elim
theorem asI_of {K : PySem.W.Frag} {H : Hp} {x : V} {d : D} {P : Int → Prop} (r : Rep K H x d) (h : asI d P) : ∃ c, x = .int c ∧ d = .int c ∧ P c := by
  cases r <;> first | exact ⟨_, rfl, rfl, h⟩ | exact (show False from h).elim
def dTest (t : DE) : DT := fun s μ Q => t s μ fun d μ' => asB d fun c => Q c μ'
section
variable {X : Cx} {a b c : Expr} {ta tb tc : DE} {pos : Pos}
theorem lift2 {K : PySem.W.Frag} {r : R2} {rD : D2} (h : OpD K r rD) : ∀ σ H Q, lE K (dOp rD ta tb) σ H Q → tOp r (lE K ta) (lE K tb) σ H Q := by
  intro σ H Q ⟨s, μ, Qd, rs, rm, t, fin⟩
  refine ⟨s, μ, _, rs, rm, t, fun v1 H1 d1 μ1 st1 rm1 rp1 q1 => ?_⟩
  refine ⟨s, μ1, _, rs.stay st1, rm1, q1, fun v2 H2 d2 μ2 st2 rm2 rp2 q2 => ?_⟩
  exact h _ _ _ _ _ _ _ _ (rp1.stay st2) rp2 rm2 q2 (Fin.stay fin (st1.trans st2))
theorem d_op {op : Operator} {r : R2} {rD : D2} (h : OpD X.K r rD) (ho : OpR X (binaryOp op) r) (ha : PE X a (lE X.K ta)) (hb : PE X b (lE X.K tb)) : PE X (.BinOp a op b pos) (lE X.K (dOp rD ta tb)) :=
  imp_E (pe_op ho ha hb) (lift2 h)
theorem d_cmp {op : CmpOp} {r : R2} {rD : D2} (h : OpD X.K r rD) (ho : OpR X (compareOp op) r) (ha : PE X a (lE X.K ta)) (hb : PE X b (lE X.K tb)) (hm : behindInMarks op b = false) : PE X (.Compare a [op] [b] pos) (lE X.K (dOp rD ta tb)) :=
  imp_E (pe_cmpR ho ha hb hm) (lift2 h)
theorem liftT {K : PySem.W.Frag} {t : DE} : ∀ σ H Q, lT K (dTest t) σ H Q → tTest (lE K t) σ H Q := by
  intro σ H Q ⟨s, μ, Qd, rs, rm, t, fin⟩
  refine ⟨s, μ, _, rs, rm, t, fun v1 H1 d1 μ1 st1 rm1 rp1 q1 => ?_⟩
  obtain ⟨c, rfl, rfl, q⟩ := asB_of rp1 q1
  exact ⟨c, rfl, fin c H1 μ1 st1 rm1 q⟩
theorem d_cmpT {op : CmpOp} {r : R2} {rD : D2} (h : OpD X.K r rD) (ho : OpR X (compareOp op) r) (ha : PE X a (lE X.K ta)) (hb : PE X b (lE X.K tb)) (hm : behindInMarks op b = false) : PT X (.Compare a [op] [b] pos) (lT X.K (dTest (dOp rD ta tb))) :=
  imp_T (pt_cmpR ho ha hb hm) fun σ H Q q => by
    obtain ⟨s, μ, Qd, rs, rm, t, fin⟩ := liftT σ H Q q
    exact lift2 h _ _ _ ⟨s, μ, Qd, rs, rm, t, fin⟩
theorem d_val {e : Expr} {t : DE} (h : PE X e (lE X.K t)) (he : ∀ whole, isTrue e X.env whole = (do let v ← whole; standAt e.pos; holding [v] (truthy v)) := by intro _; rfl) : PT X e (lT X.K (dTest t)) :=
  imp_T (pt_val h he) fun σ H Q q => by
    obtain ⟨s, μ, Qd, rs, rm, t, fin⟩ := liftT σ H Q q
    exact ⟨s, μ, Qd, rs, rm, t, fun v H' d μ' a b c e => let ⟨k, z, w⟩ := fin v H' d μ' a b c e; ⟨k, z, w⟩⟩
/-- two comparisons, the middle asked once -/
def dChain (r r' : D2) (ta tb tc : DE) : DE := fun s μ Q => ta s μ fun x μ1 => tb s μ1 fun y μ2 => r x y μ2 fun z μ3 => asB z fun k => if k = true then tc s μ3 fun w μ4 => r' y w μ4 Q else Q (.bl false) μ3
theorem lift_chain {K : PySem.W.Frag} {r r' : R2} {rD rD' : D2} (h : OpD K r rD) (h' : OpD K r' rD') : ∀ σ H Q, lE K (dChain rD rD' ta tb tc) σ H Q → tChain r r' (lE K ta) (lE K tb) (lE K tc) σ H Q := by
  intro σ H Q ⟨s, μ, Qd, rs, rm, t, fin⟩
  refine ⟨s, μ, _, rs, rm, t, fun v1 H1 d1 μ1 st1 rm1 rp1 q1 => ?_⟩
  refine ⟨s, μ1, _, rs.stay st1, rm1, q1, fun v2 H2 d2 μ2 st2 rm2 rp2 q2 => ?_⟩
  refine h _ _ _ _ _ _ _ _ (rp1.stay st2) rp2 rm2 q2 fun v3 H3 d3 μ3 st3 rm3 rp3 q3 => ?_
  obtain ⟨k, rfl, rfl, w3⟩ := asB_of rp3 q3
  refine ⟨k, rfl, ?_⟩
  cases k with
  | true =>
    rw [if_pos rfl] at w3 ⊢
    refine ⟨s, μ3, _, rs.stay ((st1.trans st2).trans st3), rm3, w3, fun v4 H4 d4 μ4 st4 rm4 rp4 q4 => ?_⟩
    exact h' _ _ _ _ _ _ _ _ (rp2.stay (st3.trans st4)) rp4 rm4 q4 (Fin.stay fin (((st1.trans st2).trans st3).trans st4))
  | false =>
    rw [if_neg Bool.false_ne_true] at w3 ⊢
    exact fin _ _ _ _ ((st1.trans st2).trans st3) rm3 (.bl false) w3
theorem d_chain {op op' : CmpOp} {r r' : R2} {rD rD' : D2} (h : OpD X.K r rD) (ho : OpR X (compareOp op) r) (h' : OpD X.K r' rD') (ho' : OpR X (compareOp op') r') (ha : PE X a (lE X.K ta)) (hb : PE X b (lE X.K tb)) (hc : PE X c (lE X.K tc)) (hm : lastMarks [op, op'] [b, c] = false := by rfl) :
    PE X (.Compare a [op, op'] [b, c] pos) (lE X.K (dChain rD rD' ta tb tc)) := imp_E (pe_chain ho ho' ha hb hc hm) (lift_chain h h')
theorem d_chainT {op op' : CmpOp} {r r' : R2} {rD rD' : D2} (h : OpD X.K r rD) (ho : OpR X (compareOp op) r) (h' : OpD X.K r' rD') (ho' : OpR X (compareOp op') r') (ha : PE X a (lE X.K ta)) (hb : PE X b (lE X.K tb)) (hc : PE X c (lE X.K tc)) (hm : lastMarks [op, op'] [b, c] = false := by rfl) :
    PT X (.Compare a [op, op'] [b, c] pos) (lT X.K (dTest (dChain rD rD' ta tb tc))) :=
  imp_T (pt_chain ho ho' ha hb hc hm) fun σ H Q q => by
    obtain ⟨s, μ, Qd, rs, rm, t, fin⟩ := liftT σ H Q q
    exact lift_chain h h' _ _ _ ⟨s, μ, Qd, rs, rm, t, fin⟩

/-! and, or, not, if else -/
variable {u v' : DT} {rest : List Expr}
def dAndT (t u : DT) : DT := fun s μ Q => t s μ fun c μ1 => if c = true then u s μ1 Q else Q false μ1
def dOrT (t u : DT) : DT := fun s μ Q => t s μ fun c μ1 => if c = true then Q true μ1 else u s μ1 Q
def dNotT (t : DT) : DT := fun s μ Q => t s μ fun c μ1 => Q (!c) μ1
theorem d_and1 (ha : PT X a (lT X.K u)) : PW X (.BoolOp .And [a] pos) (lT X.K u) := pw_and1 ha
theorem d_or1 (ha : PT X a (lT X.K u)) : PW X (.BoolOp .Or [a] pos) (lT X.K u) := pw_or1 ha
theorem d_andT (ha : PT X a (lT X.K u)) (hb : PW X (.BoolOp .And (b :: rest) pos) (lT X.K v')) : PW X (.BoolOp .And (a :: b :: rest) pos) (lT X.K (dAndT u v')) :=
  imp_W (pw_and ha hb) fun σ H Q ⟨s, μ, Qd, rs, rm, t, fin⟩ => by
    refine ⟨s, μ, _, rs, rm, t, fun c H1 μ1 st1 rm1 q1 => ?_⟩
    cases c with
    | true => exact ⟨s, μ1, Qd, rs.stay st1, rm1, q1, fun b H' μ' st => fin b H' μ' (st1.trans st)⟩
    | false => exact fin false H1 μ1 st1 rm1 q1
theorem d_orT (ha : PT X a (lT X.K u)) (hb : PW X (.BoolOp .Or (b :: rest) pos) (lT X.K v')) : PW X (.BoolOp .Or (a :: b :: rest) pos) (lT X.K (dOrT u v')) :=
  imp_W (pw_or ha hb) fun σ H Q ⟨s, μ, Qd, rs, rm, t, fin⟩ => by
    refine ⟨s, μ, _, rs, rm, t, fun c H1 μ1 st1 rm1 q1 => ?_⟩
    cases c with
    | false => exact ⟨s, μ1, Qd, rs.stay st1, rm1, q1, fun b H' μ' st => fin b H' μ' (st1.trans st)⟩
    | true => exact fin true H1 μ1 st1 rm1 q1
theorem d_notT (ha : PT X a (lT X.K u)) : PT X (.UnaryOp .Not a pos) (lT X.K (dNotT u)) :=
  imp_T (pt_not ha) fun σ H Q ⟨s, μ, Qd, rs, rm, t, fin⟩ => ⟨s, μ, _, rs, rm, t, fun c H1 μ1 st1 rm1 q1 => fin _ H1 μ1 st1 rm1 q1⟩
/-- as values, of bools -/
def dAnd (ta tb : DE) : DE := fun s μ Q => ta s μ fun x μ1 => asB x fun c => if c = true then tb s μ1 Q else Q (.bl false) μ1
def dOr (ta tb : DE) : DE := fun s μ Q => ta s μ fun x μ1 => asB x fun c => if c = true then Q (.bl true) μ1 else tb s μ1 Q
def dNot (ta : DE) : DE := fun s μ Q => ta s μ fun x μ1 => asB x fun c => Q (.bl (!c)) μ1
theorem d_one {op : BoolOp} {t : DE} (h : PE X a (lE X.K t)) : PE X (.BoolOp op [a] pos) (lE X.K t) := pe_one h
theorem d_and (ha : PE X a (lE X.K ta)) (hb : PE X (.BoolOp .And (b :: rest) pos) (lE X.K tb)) : PE X (.BoolOp .And (a :: b :: rest) pos) (lE X.K (dAnd ta tb)) :=
  imp_E (pe_and ha hb) fun σ H Q ⟨s, μ, Qd, rs, rm, t, fin⟩ => by
    refine ⟨s, μ, _, rs, rm, t, fun v1 H1 d1 μ1 st1 rm1 rp1 q1 => ?_⟩
    obtain ⟨c, rfl, rfl, q⟩ := asB_of rp1 q1
    refine ⟨c, rfl, ?_⟩
    cases c with
    | true => exact ⟨s, μ1, Qd, rs.stay st1, rm1, q, Fin.stay fin st1⟩
    | false => exact fin _ _ _ _ st1 rm1 (.bl false) q
theorem d_or (ha : PE X a (lE X.K ta)) (hb : PE X (.BoolOp .Or (b :: rest) pos) (lE X.K tb)) : PE X (.BoolOp .Or (a :: b :: rest) pos) (lE X.K (dOr ta tb)) :=
  imp_E (pe_or ha hb) fun σ H Q ⟨s, μ, Qd, rs, rm, t, fin⟩ => by
    refine ⟨s, μ, _, rs, rm, t, fun v1 H1 d1 μ1 st1 rm1 rp1 q1 => ?_⟩
    obtain ⟨c, rfl, rfl, q⟩ := asB_of rp1 q1
    refine ⟨c, rfl, ?_⟩
    cases c with
    | false => exact ⟨s, μ1, Qd, rs.stay st1, rm1, q, Fin.stay fin st1⟩
    | true => exact fin _ _ _ _ st1 rm1 (.bl true) q
theorem d_not (ha : PE X a (lE X.K ta)) : PE X (.UnaryOp .Not a pos) (lE X.K (dNot ta)) :=
  imp_E (pe_not ha) fun σ H Q ⟨s, μ, Qd, rs, rm, t, fin⟩ => by
    refine ⟨s, μ, _, rs, rm, t, fun v1 H1 d1 μ1 st1 rm1 rp1 q1 => ?_⟩
    obtain ⟨c, rfl, rfl, q⟩ := asB_of rp1 q1
    exact ⟨c, rfl, fin _ _ _ _ st1 rm1 (.bl _) q⟩
def dIfE (t : DT) (ta tb : DE) : DE := fun s μ Q => t s μ fun c μ1 => if c = true then ta s μ1 Q else tb s μ1 Q
theorem d_ifE (hc : PT X c (lT X.K u)) (ha : PE X a (lE X.K ta)) (hb : PE X b (lE X.K tb)) : PE X (.IfExp c a b pos) (lE X.K (dIfE u ta tb)) :=
  imp_E (pe_ifExp hc ha hb) fun σ H Q ⟨s, μ, Qd, rs, rm, t, fin⟩ => by
    refine ⟨s, μ, _, rs, rm, t, fun k H1 μ1 st1 rm1 q1 => ?_⟩
    cases k with
    | true => exact ⟨s, μ1, Qd, rs.stay st1, rm1, q1, Fin.stay fin st1⟩
    | false => exact ⟨s, μ1, Qd, rs.stay st1, rm1, q1, Fin.stay fin st1⟩

/-! arguments, displays -/
variable {e : Expr} {es : List Expr} {te : DE} {tr : DA}
def dNil : DA := fun _ μ Q => Q [] μ
def dCons (ta : DE) (tr : DA) : DA := fun s μ Q => ta s μ fun x μ1 => tr s μ1 fun xs μ2 => Q (x :: xs) μ2
theorem d_nil : PA X [] (lA X.K dNil) := imp_A pa_nil fun σ H Q ⟨s, μ, Qd, rs, rm, t, fin⟩ => fin [] H [] μ (Stay.refl H) rm .nil t
theorem d_cons (ha : PE X e (lE X.K te)) (hr : PA X es (lA X.K tr)) (hs : starEach (e :: es) X.env = (false, eval e X.env) :: starEach es X.env := by rfl) : PA X (e :: es) (lA X.K (dCons te tr)) :=
  imp_A (pa_cons ha hr hs) fun σ H Q ⟨s, μ, Qd, rs, rm, t, fin⟩ => by
    refine ⟨s, μ, _, rs, rm, t, fun v1 H1 d1 μ1 st1 rm1 rp1 q1 => ?_⟩
    refine ⟨s, μ1, _, rs.stay st1, rm1, q1, fun vs H2 ds μ2 st2 rm2 rp2 q2 => ?_⟩
    exact fin _ _ _ _ (st1.trans st2) rm2 (.cons (rp1.stay st2) rp2) q2
def dTup (t : DA) : DE := fun s μ Q => t s μ fun xs μ1 => xs.length ≤ sizeLine ∧ Q (.tup xs) μ1
def dLst (t : DA) : DE := fun s μ Q => t s μ fun xs μ1 => xs.length ≤ sizeLine ∧ ∀ p, μ1 p = none → Q (.obj p) (put μ1 p (.lst xs))
theorem d_tup {x1} (h : PA X es (lA X.K tr)) : PE X (.Tuple es x1 pos) (lE X.K (dTup tr)) :=
  imp_E (pe_tup h) fun σ H Q ⟨s, μ, Qd, rs, rm, t, fin⟩ => by
    refine ⟨s, μ, _, rs, rm, t, fun vs H1 ds μ1 st1 rm1 rp1 q1 => ?_⟩
    exact ⟨by rw [rp1.length]; exact q1.1, fun p hp => Fin.newT (Fin.stay fin st1) rm1 hp rp1 q1.2⟩
theorem d_lst (h : PA X es (lA X.K tr)) : PE X (.List es pos) (lE X.K (dLst tr)) :=
  imp_E (pe_lst h) fun σ H Q ⟨s, μ, Qd, rs, rm, t, fin⟩ => by
    refine ⟨s, μ, _, rs, rm, t, fun vs H1 ds μ1 st1 rm1 rp1 q1 => ?_⟩
    exact ⟨by rw [rp1.length]; exact q1.1, fun p hp => Fin.newL (Fin.stay fin st1) rm1 hp rp1 (q1.2 p (rm1.free hp))⟩

/-! one-place operators, subscripts -/
def UnD (K : PySem.W.Frag) (r : V → Hp → VK → Prop) (rD : D → Mu → DK → Prop) : Prop := ∀ x dx H μ Q Qd, Rep K H x dx → Rel K H μ → rD dx μ Qd → Fin K H Qd Q → r x H Q
def dUn (rD : D → Mu → DK → Prop) (ta : DE) : DE := fun s μ Q => ta s μ fun x μ1 => rD x μ1 Q
theorem d_un {op : UnaryOp} {r : V → Hp → VK → Prop} {rD : D → Mu → DK → Prop} (h : UnD X.K r rD) (ho : UnR X (unaryOp op) r) (ha : PE X a (lE X.K ta)) : PE X (.UnaryOp op a pos) (lE X.K (dUn rD ta)) :=
  imp_E (pe_un ho ha) fun σ H Q ⟨s, μ, Qd, rs, rm, t, fin⟩ => ⟨s, μ, _, rs, rm, t, fun v1 H1 d1 μ1 st1 rm1 rp1 q1 => h _ _ _ _ _ _ rp1 rm1 q1 (Fin.stay fin st1)⟩
theorem d_ix {r : R2} {rD : D2} (h : OpD X.K r rD) (hr : IxR X r) (ha : PE X a (lE X.K ta)) (hb : PE X b (lE X.K tb)) (hs : PlainIx b) : PE X (.Subscript a b pos) (lE X.K (dOp rD ta tb)) :=
  imp_E (pe_ix hr ha hb hs) (lift2 h)

/-! slices -/
abbrev DO := DSt → Mu → (Option Int → Mu → Prop) → Prop
def lO (K : PySem.W.Frag) (t : DO) : TO := fun σ H Q => ∃ s μ Qd, RelS K H σ s ∧ Rel K H μ ∧ t s μ Qd ∧ ∀ o H' μ', Stay H H' → Rel K H' μ' → Qd o μ' → Q o H'
def dNoP : DO := fun _ μ Q => Q none μ
def dPart (t : DE) : DO := fun s μ Q => t s μ fun d μ' => asI d fun i => Q (some i) μ'
theorem imp_O {o : Option Expr} {t t' : TO} (h : PO X o t) (i : ∀ σ H Q, t' σ H Q → t σ H Q) : PO X o t' := ⟨fun pins s σ H Q I q => h.run pins s σ H Q I (i _ _ _ q)⟩
theorem d_noP : PO X none (lO X.K dNoP) := imp_O po_none fun σ H Q ⟨s, μ, Qd, rs, rm, t, fin⟩ => fin none H μ (Stay.refl H) rm t
theorem d_part (h : PE X e (lE X.K te)) : PO X (some e) (lO X.K (dPart te)) := imp_O (po_some h) fun σ H Q ⟨s, μ, Qd, rs, rm, t, fin⟩ => by
  refine ⟨s, μ, _, rs, rm, t, fun v1 H1 d1 μ1 st1 rm1 rp1 q1 => ?_⟩
  obtain ⟨i, rfl, rfl, q⟩ := asI_of rp1 q1
  exact ⟨i, rfl, fin _ _ _ st1 rm1 q⟩
abbrev DSl := D → Option Int → Option Int → Mu → DK → Prop
def SlD (K : PySem.W.Frag) (r : V → Option Int → Option Int → Hp → VK → Prop) (rD : DSl) : Prop := ∀ x dx lo hi H μ Q Qd, Rep K H x dx → Rel K H μ → rD dx lo hi μ Qd → Fin K H Qd Q → r x lo hi H Q
def dSl (rD : DSl) (te : DE) (tl th : DO) : DE := fun s μ Q => te s μ fun x μ1 => tl s μ1 fun l μ2 => th s μ2 fun u μ3 => rD x l u μ3 Q
theorem d_slice {lo hi : Option Expr} {tl th : DO} {p2 : Pos} {r : V → Option Int → Option Int → Hp → VK → Prop} {rD : DSl} (h : SlD X.K r rD) (hr : SlR X r) (he : PE X e (lE X.K te)) (hl : PO X lo (lO X.K tl)) (hu : PO X hi (lO X.K th)) :
    PE X (.Subscript e (.Slice lo hi none p2) pos) (lE X.K (dSl rD te tl th)) :=
  imp_E (pe_slice hr he hl hu) fun σ H Q ⟨s, μ, Qd, rs, rm, t, fin⟩ => by
    refine ⟨s, μ, _, rs, rm, t, fun v1 H1 d1 μ1 st1 rm1 rp1 q1 => ?_⟩
    refine ⟨s, μ1, _, rs.stay st1, rm1, q1, fun l H2 μ2 st2 rm2 q2 => ?_⟩
    refine ⟨s, μ2, _, rs.stay (st1.trans st2), rm2, q2, fun u H3 μ3 st3 rm3 q3 => ?_⟩
    exact h _ _ _ _ _ _ _ _ (rp1.stay (st2.trans st3)) rm3 q3 (Fin.stay fin ((st1.trans st2).trans st3))

/-! calls -/
abbrev DCl := List D → Mu → DK → Prop
def ClD (K : PySem.W.Frag) (r : List V → Hp → VK → Prop) (rD : DCl) : Prop := ∀ xs ds H μ Q Qd, Reps K H xs ds → Rel K H μ → rD ds μ Qd → Fin K H Qd Q → r xs H Q
def dCB (rD : DCl) (t : DA) : DE := fun s μ Q => t s μ fun ds μ1 => rD ds μ1 Q
theorem liftC {K : PySem.W.Frag} {r : List V → Hp → VK → Prop} {rD : DCl} (h : ClD K r rD) : ∀ σ H Q, lE K (dCB rD tr) σ H Q → tCB r (lA K tr) σ H Q := fun σ H Q ⟨s, μ, Qd, rs, rm, t, fin⟩ =>
  ⟨s, μ, _, rs, rm, t, fun vs H1 ds μ1 st1 rm1 rp1 q1 => h _ _ _ _ _ _ rp1 rm1 q1 (Fin.stay fin st1)⟩
theorem d_callB {x : Str} {p : Pos} {id : String} {r : List V → Hp → VK → Prop} {rD : DCl} (h : ClD X.K r rD) (hc : CallR X (.builtin id) r) (hg : Gl X x) (hm : X.mg x = none) (hv : bootBuiltins x = some (.builtin id)) (ha : PA X (e :: es) (lA X.K tr)) (hn : x ≠ "__name__" := by decide)
    (hd : (x == ("__debug__" : Str)) = false := by decide) (he : starEach (e :: es) X.env = (false, eval e X.env) :: starEach es X.env := by rfl) (hp : (backTo pos (starEach es X.env)).any (·.1) = false := by rfl) : PE X (.Call (.Name x p) (e :: es) [] pos) (lE X.K (dCB rD tr)) :=
  imp_E (pe_callB hc hg hm hv ha hn hd he hp) (liftC h)
theorem d_callTy {x : Str} {p : Pos} {T : String} {r : List V → Hp → VK → Prop} {rD : DCl} (h : ClD X.K r rD) (hc : CallR X (.type T) r) (hg : Gl X x) (hm : X.mg x = none) (hv : bootBuiltins x = some (.type T)) (ha : PA X (e :: es) (lA X.K tr)) (hn : x ≠ "__name__" := by decide)
    (hd : (x == ("__debug__" : Str)) = false := by decide) (he : starEach (e :: es) X.env = (false, eval e X.env) :: starEach es X.env := by rfl) (hp : (backTo pos (starEach es X.env)).any (·.1) = false := by rfl) : PE X (.Call (.Name x p) (e :: es) [] pos) (lE X.K (dCB rD tr)) :=
  imp_E (pe_callTy hc hg hm hv ha hn hd he hp) (liftC h)
/-- a promise over data, lifted -/
abbrev SpD := List D → Mu → DK → Prop
def lSp (K : PySem.W.Frag) (S : SpD) : Sp := fun vs H Q _ => ∃ ds μ Qd, Reps K H vs ds ∧ Rel K H μ ∧ S ds μ Qd ∧ Fin K H Qd Q
theorem d_call {x : Str} {p : Pos} {k : Nat} {f : Addr} {fd : FuncData} {ps : List Str} {S : SpD} (F : FnOk X.prog X.w X.K X.mg X.base CX0 k f fd ps (lSp X.K S)) (hr : Room k X.A) (hg : Gl X x) (hm : X.mg x = some (.ref f)) (hk : PySem.W.keepIn X.K (.ref f) = true)
    (hb : Binds X.K fd ps []) (ha : PA X (e :: es) (lA X.K tr)) (hd : (x == ("__debug__" : Str)) = false := by decide) (he : starEach (e :: es) X.env = (false, eval e X.env) :: starEach es X.env := by rfl) (hp : (backTo pos (starEach es X.env)).any (·.1) = false := by rfl) : PE X (.Call (.Name x p) (e :: es) [] pos) (lE X.K (dCB S tr)) :=
  imp_E (pe_call F hr hg hm hk hb .nil pass0 ha hd he hp) fun σ H Q ⟨s, μ, Qd, rs, rm, t, fin⟩ => by
    refine ⟨s, μ, _, rs, rm, t, fun vs H1 ds μ1 st1 rm1 rp1 q1 => ?_⟩
    show lSp X.K S (vs ++ []) H1 Q E0
    rw [List.append_nil]
    exact ⟨ds, μ1, Qd, rp1, rm1, q1, Fin.stay fin st1⟩
/-! methods of built-in types -/
abbrev DMt := D → List D → Mu → DK → Prop
def MtD (K : PySem.W.Frag) (r : V → List V → Hp → VK → Prop) (rD : DMt) : Prop := ∀ x dx xs ds H μ Q Qd, Rep K H x dx → Reps K H xs ds → Rel K H μ → rD dx ds μ Qd → Fin K H Qd Q → r x xs H Q
/-- of what type the receiver is -/
def recv (T : String) (d : D) (μ : Mu) : Prop := match d with
  | .str _ => T = "str"
  | .obj a => match μ a with
    | some (.lst _) => T = "list"
    | some _ => T = "dict"
    | none => False
  | .rol _ => T = "list"
  | _ => False
theorem recv_ty {K : PySem.W.Frag} {H : Hp} {μ : Mu} {T : String} {x : V} {d : D} (r : Rep K H x d) (rm : Rel K H μ) (h : recv T d μ) : tyV K T x H := by
  cases r with
  | str _ => exact h
  | obj a =>
    unfold recv at h
    simp only at h
    split at h
    · rename_i ds e
      obtain ⟨xs, e2, _⟩ := rm.lst e
      exact .inl ⟨h, xs, SqL.of e2⟩
    · rename_i m hm e
      refine .inr (.inr (.inl ⟨h, ?_⟩))
      have q := rm a m e
      cases m with
      | lst ds => exact (hm ds rfl).elim
      | dK kvs => obtain ⟨ks, e2, _⟩ := q; exact .inl ⟨ks, e2⟩
      | dT kvs => obtain ⟨ks, e2, _⟩ := q; exact .inr ⟨ks, e2⟩
    · exact h.elim
  | rol q _ => exact .inl ⟨h, _, q _ (Stay.refl _)⟩
  | bl _ => exact h.elim
  | non => exact h.elim
  | int _ => exact h.elim
  | ty _ => exact h.elim
  | tup _ _ => exact h.elim
def dBM0 (T : String) (rD : DMt) (to : DE) : DE := fun s μ Q => to s μ fun x μ1 => recv T x μ1 ∧ rD x [] μ1 Q
def dBM (T : String) (rD : DMt) (to : DE) (t : DA) : DE := fun s μ Q => to s μ fun x μ1 => recv T x μ1 ∧ t s μ1 fun xs μ2 => rD x xs μ2 Q
variable {o : Expr} {to : DE} {name : Str} {apos cpos : Pos} {T id : String} {r : V → List V → Hp → VK → Prop} {rD : DMt}
theorem d_bm0 (h : MtD X.K r rD) (pa : PlainAttrs T) (slot : Slot T name id) (hty : typeOf (.builtin id) = pure (.type "method_descriptor")) (hm : MtR X id r) (ho : PE X o (lE X.K to))
    (hbase : attributeBase o name X.env (eval o X.env) = eval o X.env := by rfl) (hline : (apos.endLine == cpos.line) = true := by rfl) : PE X (.Call (.Attribute o name apos) [] [] cpos) (lE X.K (dBM0 T rD to)) :=
  imp_E (pe_bm0 pa slot hty hm ho hbase hline) fun σ H Q ⟨s, μ, Qd, rs, rm, t, fin⟩ =>
    ⟨s, μ, _, rs, rm, t, fun v1 H1 d1 μ1 st1 rm1 rp1 q1 => ⟨recv_ty rp1 rm1 q1.1, h _ _ _ _ _ _ _ _ rp1 .nil rm1 q1.2 (Fin.stay fin st1)⟩⟩
theorem d_bm (h : MtD X.K r rD) (pa : PlainAttrs T) (slot : Slot T name id) (hty : typeOf (.builtin id) = pure (.type "method_descriptor")) (hm : MtR X id r) (ho : PE X o (lE X.K to)) (ha : PA X (e :: es) (lA X.K tr))
    (hbase : attributeBase o name X.env (eval o X.env) = eval o X.env := by rfl)
    (hfew : ((backTo cpos (starEach (e :: es) X.env)).all (fun x => !x.1) && (backToKw cpos (keywordEach [] X.env)).all (fun x => x.1.isSome) && decide ((e :: es).length + ([] : List Keyword).length + (if ([] : List Keyword).isEmpty then 0 else 1) < 30)) = true := by rfl)
    (hline : (apos.endLine == cpos.line) = true := by rfl) (hs : starEach (e :: es) X.env = (false, eval e X.env) :: starEach es X.env := by rfl) (hplain : (backTo cpos (starEach es X.env)).any (·.1) = false := by rfl) :
    PE X (.Call (.Attribute o name apos) (e :: es) [] cpos) (lE X.K (dBM T rD to tr)) :=
  imp_E (pe_bm pa slot hty hm ho ha hbase hfew hline hs hplain) fun σ H Q ⟨s, μ, Qd, rs, rm, t, fin⟩ => by
    refine ⟨s, μ, _, rs, rm, t, fun v1 H1 d1 μ1 st1 rm1 rp1 q1 => ⟨recv_ty rp1 rm1 q1.1, ?_⟩⟩
    refine ⟨s, μ1, _, rs.stay st1, rm1, q1.2, fun vs H2 ds μ2 st2 rm2 rp2 q2 => ?_⟩
    exact h _ _ _ _ _ _ _ _ (rp1.stay st2) rp2 rm2 q2 (Fin.stay fin (st1.trans st2))
end
end DD
end
section
open PySem PySem.Spec PyProof.Rows L2
set_option Elab.async false
set_option linter.all false
set_option maxRecDepth 100000
namespace DD

/-! targets: a name, several names -/
inductive Tg where
  | nm (i : Nat)
  | tp (is : List Nat)
def gNames : List Nat → TGs
  | [] => gNil
  | i :: is => gCons (gName i) (gNames is)
def tgV (K : PySem.W.Frag) : Tg → TG
  | .nm i => gName i
  | .tp is => gTup K is.length (gNames is)
def setAll : DSt → List Nat → List D → DSt
  | s, i :: is, d :: ds => setAll (s.set i (some d)) is ds
  | s, _, _ => s
def asT (d : D) (P : List D → Prop) : Prop := match d with
  | .tup ds => P ds
  | _ => False
theorem asT_of {K : PySem.W.Frag} {H : Hp} {x : V} {d : D} {P : List D → Prop} (r : Rep K H x d) (h : asT d P) : ∃ a xs ds, x = .ref a ∧ d = .tup ds ∧ SqT K H a xs ∧ Reps K H xs ds ∧ P ds := by
  cases r <;> first | exact ⟨_, _, _, rfl, rfl, ‹_›, ‹_›, h⟩ | exact (show False from h).elim
def dBind : Tg → D → DSt → (DSt → Prop) → Prop
  | .nm i, d, s, Q => Q (s.set i (some d))
  | .tp is, d, s, Q => asT d fun ds => ds.length = is.length ∧ Q (setAll s is ds)
def tgIn : Tg → List Nat → Prop
  | .nm i, vs => i ∈ vs
  | .tp is, vs => ∀ i ∈ is, i ∈ vs
theorem wipe_set {σ : L2.St} {i : Nat} {x : Option V} : ∀ {vs : List Nat}, i ∈ vs → wipe (σ.set i x) vs = wipe σ vs
  | [], h => nomatch h
  | v :: vs, h => by
    show (wipe (σ.set i x) vs).set v none = (wipe σ vs).set v none
    by_cases hv : i ∈ vs
    · rw [wipe_set hv]
    · have e : i = v := by
        rcases List.mem_cons.mp h with e | e
        · exact e
        · exact absurd e hv
      subst e
      have c : ∀ ws : List Nat, i ∉ ws → wipe (σ.set i x) ws = (wipe σ ws).set i x := by
        intro ws
        induction ws with
        | nil => intro _; rfl
        | cons w ws ih =>
          intro hn
          show (wipe (σ.set i x) ws).set w none = ((wipe σ ws).set w none).set i x
          rw [ih (fun z => hn (List.mem_cons_of_mem _ z))]
          exact List.set_comm _ _ (fun z => hn (by rw [z]; exact List.mem_cons_self))
      rw [c vs hv, List.set_set]
theorem wipe_wipe {σ : L2.St} (ws : List Nat) : ∀ {vs : List Nat}, (∀ i ∈ vs, i ∈ ws) → wipe (wipe σ vs) ws = wipe σ ws
  | [], _ => rfl
  | v :: vs, h => by
    show wipe ((wipe σ vs).set v none) ws = _
    rw [wipe_set (h v List.mem_cons_self)]
    exact wipe_wipe ws fun i hi => h i (List.mem_cons_of_mem _ hi)
def dwipe (s : DSt) : List Nat → DSt
  | [] => s
  | v :: vs => (dwipe s vs).set v none
theorem RelS.none {K : PySem.W.Frag} {H : Hp} {σ : L2.St} {s : DSt} (r : RelS K H σ s) (v : Nat) : RelS K H (σ.set v none) (s.set v none) := by
  refine ⟨by rw [List.length_set, List.length_set, r.len], fun i d e => ?_⟩
  by_cases c : v = i
  · subst c
    by_cases hl : v < List.length s
    · rw [List.getElem?_set_self hl] at e; cases e
    · rw [List.getElem?_eq_none (by rw [List.length_set]; omega)] at e; cases e
  · rw [List.getElem?_set_ne c] at e ⊢
    exact r.get i d e
theorem RelS.wipe {K : PySem.W.Frag} {H : Hp} {σ : L2.St} {s : DSt} (r : RelS K H σ s) : ∀ vs : List Nat, RelS K H (wipe σ vs) (dwipe s vs)
  | [] => r
  | v :: vs => (RelS.wipe r vs).none v
theorem gNames_ok {K : PySem.W.Frag} {H : Hp} {Q : L2.St → Hp → Prop} {ws : List Nat} {w0 : L2.St} : ∀ {is : List Nat} {xs : List V} {ds : List D} {σ : L2.St} {s : DSt} {Qd : DSt → Prop}, (∀ i ∈ is, i ∈ ws) → wipe σ ws = w0 → Reps K H xs ds → RelS K H σ s → ds.length = is.length →
    Qd (setAll s is ds) → (∀ σ2 s2, RelS K H σ2 s2 → wipe σ2 ws = w0 → Qd s2 → Q σ2 H) → gNames is xs σ H Q
  | [], [], [], σ, s, Qd, _, hw, .nil, rs, _, q, f => ⟨rfl, f σ s rs hw q⟩
  | i :: is, _, _, σ, s, Qd, hi, hw, .cons (x := x) (d := d) (xs := xs) (ds := ds) r t, rs, hl, q, f =>
    ⟨x, xs, rfl, gNames_ok (σ := σ.set i (some x)) (s := s.set i (some d)) (fun j hj => hi j (List.mem_cons_of_mem _ hj)) ((wipe_set (hi i List.mem_cons_self)).trans hw) t (rs.set r) (Nat.succ.inj hl) q f⟩
  | [], _, _ :: _, _, _, _, _, _, _, _, hl, _, _ => nomatch hl
theorem tg_ok {K : PySem.W.Frag} {H : Hp} {Q : L2.St → Hp → Prop} {ws : List Nat} {w0 : L2.St} {tg : Tg} {v : V} {d : D} {σ : L2.St} {s : DSt} {Qd : DSt → Prop} (hi : tgIn tg ws) (hw : wipe σ ws = w0) (r : Rep K H v d) (rs : RelS K H σ s) (q : dBind tg d s Qd)
    (f : ∀ σ2 s2, RelS K H σ2 s2 → wipe σ2 ws = w0 → Qd s2 → Q σ2 H) : tgV K tg v σ H Q := by
  cases tg with
  | nm i => exact f _ _ (rs.set r) ((wipe_set hi).trans hw) q
  | tp is =>
    obtain ⟨a, xs, ds, rfl, rfl, hq, rr, hl, q⟩ := asT_of r q
    exact ⟨a, xs, rfl, hq, by rw [rr.length]; exact hl, gNames_ok hi hw rr rs hl q f⟩
theorem tg_ok' {K : PySem.W.Frag} {H : Hp} {Q : L2.St → Hp → Prop} {tg : Tg} {v : V} {d : D} {σ : L2.St} {s : DSt} {Qd : DSt → Prop} (r : Rep K H v d) (rs : RelS K H σ s) (q : dBind tg d s Qd)
    (f : ∀ σ2 s2, RelS K H σ2 s2 → Qd s2 → Q σ2 H) : tgV K tg v σ H Q := by
  cases tg with
  | nm i => exact f _ _ (rs.set r) q
  | tp is =>
    obtain ⟨a, xs, ds, rfl, rfl, hq, rr, hl, q⟩ := asT_of r q
    exact ⟨a, xs, rfl, hq, by rw [rr.length]; exact hl, gNames_ok (ws := is) (fun i h => h) rfl rr rs hl q fun σ2 s2 a _ b => f σ2 s2 a b⟩

/-! small statements -/
section
variable {X : Cx} {st : Stmt} {rest : List Stmt} {t u : DS} {e : Expr} {te : DE} {pos : Pos}
/-- the ends of a block that begins later -/
structure EndsOk (K : PySem.W.Frag) (H : Hp) (Ed : DEnds) (E : Ends) : Prop where
  nx : ∀ σ' H' s' μ', Stay H H' → RelS K H' σ' s' → Rel K H' μ' → Ed.nx s' μ' → E.nx σ' H'
  rt : ∀ v H' d μ', Stay H H' → Rel K H' μ' → Rep K H' v d → Ed.rt d μ' → E.rt v H'
  bk : ∀ σ' H' s' μ', Stay H H' → RelS K H' σ' s' → Rel K H' μ' → Ed.bk s' μ' → E.bk σ' H'
  ct : ∀ σ' H' s' μ', Stay H H' → RelS K H' σ' s' → Rel K H' μ' → Ed.ct s' μ' → E.ct σ' H'
theorem EndsOk.stay {K : PySem.W.Frag} {H H1 : Hp} {Ed : DEnds} {E : Ends} (h : EndsOk K H Ed E) (s : Stay H H1) : EndsOk K H1 Ed E :=
  ⟨fun a b c d x => h.nx a b c d (s.trans x), fun a b c d x => h.rt a b c d (s.trans x), fun a b c d x => h.bk a b c d (s.trans x), fun a b c d x => h.ct a b c d (s.trans x)⟩
theorem lS_mk {K : PySem.W.Frag} {E : Ends} {σ : L2.St} {H : Hp} {s : DSt} {μ : Mu} {Ed : DEnds} {t : DS} (rs : RelS K H σ s) (rm : Rel K H μ) (q : t Ed s μ) (h : EndsOk K H Ed E) : lS K t E σ H := ⟨s, μ, Ed, rs, rm, q, h.nx, h.rt, h.bk, h.ct⟩
theorem lS_of {K : PySem.W.Frag} {E : Ends} {σ : L2.St} {H : Hp} {t : DS} (h : lS K t E σ H) : ∃ s μ Ed, RelS K H σ s ∧ Rel K H μ ∧ t Ed s μ ∧ EndsOk K H Ed E :=
  let ⟨s, μ, Ed, rs, rm, q, a, b, c, d⟩ := h
  ⟨s, μ, Ed, rs, rm, q, a, b, c, d⟩
def dNext : DS := fun E s μ => E.nx s μ
def dSeq (t u : DS) : DS := fun E s μ => t { E with nx := u E } s μ
theorem ds_nil : PSs X [] (lS X.K dNext) := imp_Ss pss_nil fun E σ H h => by
  obtain ⟨s, μ, Ed, rs, rm, q, f⟩ := lS_of h
  exact f.nx _ _ _ _ (Stay.refl H) rs rm q
theorem ds_cons (h1 : PS X st (lS X.K t)) (h2 : PSs X rest (lS X.K u)) : PSs X (st :: rest) (lS X.K (dSeq t u)) := imp_Ss (pss_cons h1 h2) fun E σ H h => by
  obtain ⟨s, μ, Ed, rs, rm, q, f⟩ := lS_of h
  exact lS_mk rs rm q ⟨fun σ' H' s' μ' st rs' rm' q' => lS_mk rs' rm' q' (f.stay st), f.rt, f.bk, f.ct⟩
theorem ds_one (h1 : PS X st (lS X.K t)) : PSs X [st] (lS X.K t) := pss_one h1
theorem ds_pass : PS X (.Pass pos) (lS X.K dNext) := imp_S ps_pass fun E σ H h => by
  obtain ⟨s, μ, Ed, rs, rm, q, f⟩ := lS_of h
  exact f.nx _ _ _ _ (Stay.refl H) rs rm q
def dBreak : DS := fun E s μ => E.bk s μ
def dCont : DS := fun E s μ => E.ct s μ
theorem ds_break : PS X (.Break pos) (lS X.K dBreak) := imp_S ps_break fun E σ H h => by
  obtain ⟨s, μ, Ed, rs, rm, q, f⟩ := lS_of h
  exact f.bk _ _ _ _ (Stay.refl H) rs rm q
theorem ds_cont : PS X (.Continue pos) (lS X.K dCont) := imp_S ps_continue fun E σ H h => by
  obtain ⟨s, μ, Ed, rs, rm, q, f⟩ := lS_of h
  exact f.ct _ _ _ _ (Stay.refl H) rs rm q
def dDrop (te : DE) : DS := fun E s μ => te s μ fun _ μ1 => E.nx s μ1
theorem ds_expr (he : PE X e (lE X.K te)) (hs : swapsWith e none pos.line X.env = pure false := by rfl) : PS X (.Expr e pos) (lS X.K (dDrop te)) := imp_S (ps_expr he hs) fun E σ H h => by
  obtain ⟨s, μ, Ed, rs, rm, q, f⟩ := lS_of h
  exact ⟨s, μ, _, rs, rm, q, fun v H' d μ' st rm' rp q' => f.nx _ _ _ _ st (rs.stay st) rm' q'⟩
def dRet (te : DE) : DS := fun E s μ => te s μ E.rt
theorem ds_ret (he : PE X e (lE X.K te)) : PS X (.Return (some e) pos) (lS X.K (dRet te)) := imp_S (ps_ret he) fun E σ H h => by
  obtain ⟨s, μ, Ed, rs, rm, q, f⟩ := lS_of h
  exact ⟨s, μ, _, rs, rm, q, fun v H' d μ' st rm' rp q' => f.rt _ _ _ _ st rm' rp q'⟩
def dRetN : DS := fun E _ μ => E.rt .non μ
theorem ds_retN : PS X (.Return none pos) (lS X.K dRetN) := imp_S ps_retN fun E σ H h => by
  obtain ⟨s, μ, Ed, rs, rm, q, f⟩ := lS_of h
  exact f.rt _ _ _ _ (Stay.refl H) rm .non q
def dIf (c : DT) (t u : DS) : DS := fun E s μ => c s μ fun b μ1 => if b = true then t E s μ1 else u E s μ1
theorem ds_if {c : Expr} {a b : List Stmt} {tc : DT} (hc : PT X c (lT X.K tc)) (ha : PSs X a (lS X.K t)) (hb : PSs X b (lS X.K u)) : PS X (.If c a b pos) (lS X.K (dIf tc t u)) := imp_S (ps_if hc ha hb) fun E σ H h => by
  obtain ⟨s, μ, Ed, rs, rm, q, f⟩ := lS_of h
  refine ⟨s, μ, _, rs, rm, q, fun b H' μ' st rm' q' => ?_⟩
  cases b with
  | true => exact lS_mk (rs.stay st) rm' q' (f.stay st)
  | false => exact lS_mk (rs.stay st) rm' q' (f.stay st)
/-- target = value -/
def dAsg (te : DE) (tg : Tg) : DS := fun E s μ => te s μ fun d μ1 => dBind tg d s fun s2 => E.nx s2 μ1
theorem lift_asg {tg : Tg} {K : PySem.W.Frag} {E : Ends} {σ : L2.St} {H : Hp} (h : lS K (dAsg te tg) E σ H) : tAsg (lE K te) (tgV K tg) E σ H := by
  obtain ⟨s, μ, Ed, rs, rm, q, f⟩ := lS_of h
  exact ⟨s, μ, _, rs, rm, q, fun v H' d μ' st rm' rp q' => tg_ok' rp (rs.stay st) q' fun σ2 s2 r2 q2 => f.nx _ _ _ _ st r2 rm' q2⟩
theorem ds_set (i : Nat) {x : Str} {pos' : Pos} (hN : X.N.Nodup) (he : PE X e (lE X.K te)) (hi : X.N[i]? = some x := by rfl) (hx : Loc X.env.scope x := by first | exact .inl rfl | exact .inr rfl) (hs : swapsWith e (some (.Name x pos')) pos.line X.env = pure false := by rfl)
    (hf : X.fn x = true ∨ X.env.scope.names.lookup x = some .local := by first | exact .inl rfl | exact .inr rfl | assumption) : PS X (.Assign [.Name x pos'] e pos) (lS X.K (dAsg te (.nm i))) :=
  imp_S (ps_set hN hi hx he hs hf) fun E σ H h => lift_asg h
theorem ds_asg {tg : Tg} {te' : Expr} (he : PE X e (lE X.K te)) (hg : PG X te' (tgV X.K tg)) (hs : swapsWithSole [te'] e pos.line X.env = pure false := by rfl) (hw : swappedStores [te'] e X.env = pure none := by rfl)
    (h1 : (assignEach [te'] X.env).map (·.2) = [assign te' X.env] := by rfl) : PS X (.Assign [te'] e pos) (lS X.K (dAsg te tg)) :=
  imp_S (ps_asg he hg hs hw h1) fun E σ H h => lift_asg h
/-- a, b = x, y -/
def dPar (i j : Nat) (ta : DA) : DS := fun E s μ => ta s μ fun ds μ1 => match ds with
  | [a, b] => E.nx (List.set (List.set s i (some a)) j (some b)) μ1
  | _ => False
theorem ds_par {i j : Nat} {x y : Str} {a b : Expr} {ta : DA} {px py pt : Pos} {kt k2 pt2} (hc : X.calm = true) (hN : X.N.Nodup) (hi : X.N[i]? = some x) (hj : X.N[j]? = some y) (hij : i ≠ j)
    (hx : X.env.scope.names.lookup x = some .local) (hy : X.env.scope.names.lookup y = some .local) (ha : PA X [a, b] (lA X.K ta)) (hw : swappedStores [.Tuple [.Name x px, .Name y py] kt pt] (.Tuple [a, b] k2 pt2) X.env = pure (some [x, y]))
    (hs : swapsWithSole [.Tuple [.Name x px, .Name y py] kt pt] (.Tuple [a, b] k2 pt2) pos.line X.env = pure false := by rfl) :
    PS X (.Assign [.Tuple [.Name x px, .Name y py] kt pt] (.Tuple [a, b] k2 pt2) pos) (lS X.K (dPar i j ta)) :=
  imp_S (ps_par hc hN hi hj hij hx hy ha hw hs) fun E σ H h => by
    obtain ⟨s, μ, Ed, rs, rm, q, f⟩ := lS_of h
    refine ⟨s, μ, _, rs, rm, q, fun vs H' ds μ' st rm' rp q' => ?_⟩
    cases rp with
    | nil => exact q'.elim
    | cons r1 t1 =>
      cases t1 with
      | nil => exact q'.elim
      | cons r2 t2 =>
        cases t2 with
        | nil => exact ⟨_, _, rfl, f.nx _ _ _ _ st (((rs.stay st).set r1).set r2) rm' q'⟩
        | cons _ _ => exact q'.elim
/-- name op= e -/
def dAug (i : Nat) (te : DE) (r : D2) : DS := fun E s μ => match s[i]? with
  | some (some d) => te s μ fun y μ1 => r d y μ1 fun z μ2 => E.nx (s.set i (some z)) μ2
  | _ => False
theorem ds_aug (i : Nat) {x : Str} {op : Operator} {r : R2} {rD : D2} {pos' : Pos} (hN : X.N.Nodup) (h : OpD X.K r rD) (ho : OpR X (inplaceOp op) r) (he : PE X e (lE X.K te)) (hi : X.N[i]? = some x := by rfl) (hx : Loc X.env.scope x := by first | exact .inl rfl | exact .inr rfl)
    (hf : X.fn x = true ∨ X.env.scope.names.lookup x = some .local := by first | exact .inl rfl | exact .inr rfl | assumption) : PS X (.AugAssign (.Name x pos') op e pos) (lS X.K (dAug i te rD)) :=
  imp_S (ps_aug (ti := r) hN hi hx he (fun pins s σ H x y v u Q I rx ry q => ho pins s σ H x y v u Q I rx ry q) hf) fun E σ H hw => by
    obtain ⟨s, μ, Ed, rs, rm, q, f⟩ := lS_of hw
    unfold dAug at q
    split at q
    · rename_i d ed
      obtain ⟨v, e1, r1⟩ := rs.get i d ed
      refine ⟨v, e1, s, μ, _, rs, rm, q, fun v2 H2 d2 μ2 st2 rm2 rp2 q2 => ?_⟩
      exact h _ _ _ _ _ _ _ _ (r1.stay st2) rp2 rm2 q2 fun v3 H3 d3 μ3 st3 rm3 rp3 q3 => f.nx _ _ _ _ (st2.trans st3) ((rs.stay (st2.trans st3)).set rp3) rm3 q3
    · exact q.elim
/-- o[i] = e -/
def SetD (K : PySem.W.Frag) (r : V → V → V → Hp → (Hp → Prop) → Prop) (rD : D → D → D → Mu → (Mu → Prop) → Prop) : Prop :=
  ∀ o i v dO dI dV H μ Q Qd, Rep K H o dO → Rep K H i dI → Rep K H v dV → Rel K H μ → rD dO dI dV μ Qd → (∀ H' μ', Stay H H' → Rel K H' μ' → Qd μ' → Q H') → r o i v H Q
def dPut (te to ti : DE) (rD : D → D → D → Mu → (Mu → Prop) → Prop) : DS := fun E s μ => te s μ fun v μ1 => to s μ1 fun o μ2 => ti s μ2 fun i μ3 => rD o i v μ3 fun μ4 => E.nx s μ4
theorem ds_put {o i : Expr} {to ti : DE} {pos' : Pos} {r : V → V → V → Hp → (Hp → Prop) → Prop} {rD : D → D → D → Mu → (Mu → Prop) → Prop} (h : SetD X.K r rD) (hset : PSet X r) (he : PE X e (lE X.K te)) (ho : PE X o (lE X.K to)) (hi : PE X i (lE X.K ti))
    (ha : ∀ v, assign (.Subscript o i pos') X.env v = (do
      let ov ← holding [v] (eval o X.env)
      let iv ← holding [v, ov] (eval i X.env)
      standAt pos'
      holding [v, ov, iv] (setItem ov iv v)
      release [v, ov, iv] []) := by intro _; rfl)
    (hs : swapsWithSole [.Subscript o i pos'] e pos.line X.env = pure false := by rfl) (hw : swappedStores [.Subscript o i pos'] e X.env = pure none := by rfl)
    (h1 : (assignEach [.Subscript o i pos'] X.env).map (·.2) = [assign (.Subscript o i pos') X.env] := by rfl) : PS X (.Assign [.Subscript o i pos'] e pos) (lS X.K (dPut te to ti rD)) :=
  imp_S (ps_asg he (pg_sub ho hi hset ha) hs hw h1) fun E σ H hh => by
    obtain ⟨s, μ, Ed, rs, rm, q, f⟩ := lS_of hh
    refine ⟨s, μ, _, rs, rm, q, fun v1 H1 d1 μ1 st1 rm1 rp1 q1 => ?_⟩
    refine ⟨s, μ1, _, rs.stay st1, rm1, q1, fun v2 H2 d2 μ2 st2 rm2 rp2 q2 => ?_⟩
    refine ⟨s, μ2, _, rs.stay (st1.trans st2), rm2, q2, fun v3 H3 d3 μ3 st3 rm3 rp3 q3 => ?_⟩
    refine h _ _ _ _ _ _ _ _ _ _ (rp2.stay st3) rp3 (rp1.stay (st2.trans st3)) rm3 q3 fun H4 μ4 st4 rm4 q4 => ?_
    have st := ((st1.trans st2).trans st3).trans st4
    exact f.nx _ _ _ _ st (rs.stay st) rm4 q4

/-! loops -/
def DIt (K : PySem.W.Frag) (H0 : Hp) (J : It) (ds : List D) (stab : Mu → Prop) : Prop := ∀ (i : Nat) H μ, Stay H0 H → Rel K H μ → stab μ → (ds.length ≤ i → J.stop i H) ∧
  ∀ d, ds[i]? = some d → J.go i H ∧ ∀ x H', J.yld i H x H' → Stay H H' ∧ Rel K H' μ ∧ Rep K H' x d
abbrev DI := DSt → Mu → (List D → (Mu → Prop) → Mu → Prop) → Prop
def lI (K : PySem.W.Frag) (w : DI) : TI := fun σ H R => ∃ s μ Rd, RelS K H σ s ∧ Rel K H μ ∧ w s μ Rd ∧ ∀ J H' ds stab μ', Stay H H' → Rel K H' μ' → DIt K H' J ds stab → Rd ds stab μ' → R J H'
def dFor (w : DI) (tg : Tg) (tb : DS) : DS := fun E s μ => w s μ fun ds stab μ1 => ∃ Inv : Nat → DSt → Mu → Prop, Inv 0 s μ1 ∧ (∀ i s μ, Inv i s μ → stab μ) ∧
  (∀ i d s μ, ds[i]? = some d → Inv i s μ → dBind tg d s fun s2 => tb { E with nx := Inv (i + 1), ct := Inv (i + 1), bk := E.nx } s2 μ) ∧ ∀ s μ, Inv ds.length s μ → E.nx s μ
theorem ds_for {tgE iter : Expr} {body : List Stmt} {w : DI} {tg : Tg} {tb : DS} (hp : PassesOwn (model X.prog X.w) X.A X.env X.xe) (hc : X.calm = true) (hi : PI X tgE iter (lI X.K w)) (hg : PG X tgE (tgV X.K tg)) (hb : PSs X body (lS X.K tb))
    (hs : ∀ x, foldedSetIterable iter X.env x = pure x := by intro _; rfl) : PS X (.For tgE iter body [] pos) (lS X.K (dFor w tg tb)) :=
  imp_S (ps_for hp hc hi hg hb hs) fun E σ H h => by
    obtain ⟨s, μ, Ed, rs, rm, q, f⟩ := lS_of h
    refine ⟨s, μ, _, rs, rm, q, fun J H1 ds stab μ1 st1 rm1 it ⟨W0, i0, hst, turn, fin⟩ => ?_⟩
    refine ⟨fun i m σ' H' => ∃ s' μ', Stay H1 H' ∧ RelS X.K H' σ' s' ∧ Rel X.K H' μ' ∧ W0 i s' μ' ∧ i + m = ds.length, ⟨ds.length, s, μ1, Stay.refl _, rs.stay st1, rm1, i0, Nat.zero_add _⟩, ?_⟩
    rintro i m σ2 H2 ⟨s2, μ2, st2, rs2, rm2, iv, hm⟩
    obtain ⟨a, b⟩ := it i H2 μ2 st2 rm2 (hst _ _ _ iv)
    by_cases hl : i < ds.length
    · obtain ⟨go, y⟩ := b ds[i] (List.getElem?_eq_getElem hl)
      refine .inr ⟨go, fun σ' H' => ∃ s' μ', Stay H1 H' ∧ RelS X.K H' σ' s' ∧ Rel X.K H' μ' ∧ W0 (i + 1) s' μ', fun σ' H' ⟨s', μ', p1, p2, p3, p4⟩ => ⟨m - 1, by omega, s', μ', p1, p2, p3, p4, by omega⟩, fun x H3 hy => ?_⟩
      obtain ⟨st3, rm3, rp⟩ := y x H3 hy
      refine tg_ok' rp (rs2.stay st3) (turn i _ s2 μ2 (List.getElem?_eq_getElem hl) iv) fun σ4 s4 rs4 q4 => ?_
      have st03 : Stay H H3 := (st1.trans st2).trans st3
      refine lS_mk rs4 rm3 q4 ⟨fun σ' H' s' μ' p a b c => ⟨s', μ', (st2.trans st3).trans p, a, b, c⟩, fun v H' d μ' p a b c => f.rt v H' d μ' (st03.trans p) a b c, fun σ' H' s' μ' p a b c => f.nx σ' H' s' μ' (st03.trans p) a b c, fun σ' H' s' μ' p a b c => ⟨s', μ', (st2.trans st3).trans p, a, b, c⟩⟩
    · have e : i = ds.length := by omega
      subst e
      exact .inl ⟨a (Nat.le_refl _), f.nx _ _ _ _ (st1.trans st2) rs2 rm2 (fin _ _ iv)⟩
def dWhile (t : DT) (tb : DS) : DS := fun E s μ => ∃ Inv : Nat → DSt → Mu → Prop, (∃ m, Inv m s μ) ∧ ∀ m s μ, Inv m s μ → t s μ fun b μ1 => if b = true then tb { E with nx := fun s' μ' => ∃ m', m' < m ∧ Inv m' s' μ', ct := fun s' μ' => ∃ m', m' < m ∧ Inv m' s' μ', bk := E.nx } s μ1 else E.nx s μ1
theorem ds_while {c : Expr} {body : List Stmt} {tc : DT} {tb : DS} (hp : PassesOwn (model X.prog X.w) X.A X.env X.xe) (hc : PT X c (lT X.K tc)) (hb : PSs X body (lS X.K tb)) : PS X (.While c body [] pos) (lS X.K (dWhile tc tb)) :=
  imp_S (ps_while hp hc hb) fun E σ H h => by
    obtain ⟨s, μ, Ed, rs, rm, ⟨W0, ⟨m, i0⟩, turn⟩, f⟩ := lS_of h
    refine ⟨fun m σ' H' => ∃ s' μ', Stay H H' ∧ RelS X.K H' σ' s' ∧ Rel X.K H' μ' ∧ W0 m s' μ', ⟨m, s, μ, Stay.refl _, rs, rm, i0⟩, ?_⟩
    rintro m σ2 H2 ⟨s2, μ2, st2, rs2, rm2, iv⟩
    refine ⟨s2, μ2, _, rs2, rm2, turn m s2 μ2 iv, fun b H3 μ3 st3 rm3 q3 => ?_⟩
    have st := st2.trans st3
    cases b with
    | true =>
      rw [if_pos rfl] at q3
      refine iteT ?_
      refine ⟨fun σ' H' => ∃ m', m' < m ∧ ∃ s' μ', Stay H H' ∧ RelS X.K H' σ' s' ∧ Rel X.K H' μ' ∧ W0 m' s' μ', fun σ' H' z => z, ?_⟩
      exact lS_mk (rs2.stay st3) rm3 q3 ⟨fun σ' H' s' μ' p a b ⟨m', l, c⟩ => ⟨m', l, s', μ', st.trans p, a, b, c⟩, fun v H' d μ' p a b c => f.rt v H' d μ' (st.trans p) a b c, fun σ' H' s' μ' p a b c => f.nx σ' H' s' μ' (st.trans p) a b c, fun σ' H' s' μ' p a b ⟨m', l, c⟩ => ⟨m', l, s', μ', st.trans p, a, b, c⟩⟩
    | false =>
      rw [if_neg Bool.false_ne_true] at q3
      refine iteF ?_
      exact f.nx _ _ _ _ st (rs2.stay st3) rm3 q3

/-! comprehensions -/
def dYes : DT := fun _ μ Q => Q true μ
theorem imp_Ts {c : List Expr} {t t' : TT} (h : PTs X c t) (i : ∀ σ H Q, t' σ H Q → t σ H Q) : PTs X c t' := ⟨fun pins s σ H Q I q => h.run pins s σ H Q I (i _ _ _ q)⟩
theorem d_yes : PTs X [] (lT X.K dYes) := imp_Ts pts_nil fun σ H Q ⟨s, μ, Qd, rs, rm, t, fin⟩ => fin true H μ (Stay.refl H) rm t
def dLc (w : DI) (tg : Tg) (tt : DT) (te : DE) (vs : List Nat) : DE := fun s μ Q => w s μ fun ds stab μ1 => ∀ p, μ1 p = none → ∃ Inv : Nat → List D → Mu → Prop, Inv 0 [] (put μ1 p (.lst [])) ∧ (∀ i acc μ, Inv i acc μ → μ p = some (.lst acc) ∧ stab μ) ∧
  (∀ i d acc μ, ds[i]? = some d → Inv i acc μ → dBind tg d (dwipe s vs) fun s2 => tt s2 μ fun b μ3 => if b = true then te s2 μ3 fun y μ4 => μ4 p = some (.lst acc) ∧ acc.length < sizeLine ∧ Inv (i + 1) (acc ++ [y]) (put μ4 p (.lst (acc ++ [y]))) else Inv (i + 1) acc μ3) ∧
  ∀ acc μ, Inv ds.length acc μ → Q (.obj p) μ
theorem lift_lc {K : PySem.W.Frag} {w : DI} {tg : Tg} {tt : DT} {vs : List Nat} (hin : tgIn tg vs) : ∀ σ H Q, lE K (dLc w tg tt te vs) σ H Q → tLc (lI K w) (tgV K tg) (lT K tt) (lE K te) vs σ H Q := by
  intro σ H Q ⟨s, μ, Qd, rs, rm, t, fin⟩
  refine ⟨s, μ, _, rs, rm, t, fun J H1 ds stab μ1 st1 rm1 it q D hD => ?_⟩
  obtain ⟨W0, i0, hst, turn, hend⟩ := q D (rm1.free hD)
  have st1' : Stay H (upd H1 D (.lst [])) := st1.trans (Stay.new hD)
  refine ⟨fun i m H' => ∃ acc μ', Stay (upd H1 D (.lst [])) H' ∧ Rel K H' μ' ∧ W0 i acc μ' ∧ i + m = ds.length, ⟨ds.length, [], _, Stay.refl _, rm1.new (m := .lst []) hD (show MRep K _ D (.lst []) from ⟨[], upd_same, .nil⟩), i0, Nat.zero_add _⟩, ?_⟩
  rintro i m H2 ⟨acc, μ2, st2, rm2, iv, hm⟩
  obtain ⟨hD2, hs2⟩ := hst _ _ _ iv
  obtain ⟨a, b⟩ := it i H2 μ2 ((Stay.new hD).trans st2) rm2 hs2
  by_cases hl : i < ds.length
  · obtain ⟨go, y⟩ := b ds[i] (List.getElem?_eq_getElem hl)
    refine .inr ⟨go, fun H' => ∃ acc μ', Stay (upd H1 D (.lst [])) H' ∧ Rel K H' μ' ∧ W0 (i + 1) acc μ', fun H' ⟨acc, μ', p1, p2, p3⟩ => ⟨m - 1, by omega, acc, μ', p1, p2, p3, by omega⟩, fun x H3 hy => ?_⟩
    obtain ⟨st3, rm3, rp⟩ := y x H3 hy
    have st03 : Stay H H3 := (st1'.trans st2).trans st3
    refine tg_ok (ws := vs) (w0 := wipe σ vs) hin (wipe_wipe vs fun i h => h) rp ((rs.wipe vs).stay st03) (turn i _ acc μ2 (List.getElem?_eq_getElem hl) iv) fun σ4 s4 rs4 hw q4 => ⟨hw, ?_⟩
    refine ⟨s4, μ2, _, rs4, rm3, q4, fun bb H5 μ5 st5 rm5 q5 => ?_⟩
    cases bb with
    | true =>
      rw [if_pos rfl] at q5
      refine iteT ?_
      refine ⟨s4, μ5, _, rs4.stay st5, rm5, q5, fun v6 H6 d6 μ6 st6 rm6 rp6 q6 => ?_⟩
      obtain ⟨e6, hz, iv6⟩ := q6
      obtain ⟨xs, ex, rx⟩ := rm6.lst e6
      have st26 : Stay (upd H1 D (.lst [])) H6 := (st2.trans st3).trans (st5.trans st6)
      refine ⟨xs, ex, by rw [rx.length]; exact hz, acc ++ [d6], _, st26.trans (Stay.put ex True.intro), rm6.wrL ex (rx.append (.cons rp6 .nil)), iv6⟩
    | false =>
      rw [if_neg Bool.false_ne_true] at q5
      refine iteF ?_
      exact ⟨acc, μ5, (st2.trans st3).trans st5, rm5, q5⟩
  · have e : i = ds.length := by omega
    subst e
    exact .inl ⟨a (Nat.le_refl _), fin _ _ _ _ (st1'.trans st2) rm2 (.obj D) (hend _ _ iv)⟩
theorem d_lc {elt tgE iter : Expr} {ifs : List Expr} {scope : Scope} {own : List (Str × Nat)} {w : DI} {tg : Tg} {tt : DT} (vs : List Nat) (hc : X.calm = true) (hN : X.N.Nodup) (hi : PI X tgE iter (lI X.K w)) (ok : BlkOk X.N X.env.scope scope own)
    (hg : ∀ (s : Shared) (H : Hp) (C : Addr) (cl : List (Str × Addr)) (fp : List Addr), PG (X.blk s H scope (compEnvC scope cl C X.env) fp) tgE (tgV X.K tg)) (ht : ∀ (s : Shared) (H : Hp) (C : Addr) (cl : List (Str × Addr)) (fp : List Addr), PTs (X.blk s H scope (compEnvC scope cl C X.env) fp) ifs (lT X.K tt))
    (he : ∀ (s : Shared) (H : Hp) (C : Addr) (cl : List (Str × Addr)) (fp : List Addr), PE (X.blk s H scope (compEnvC scope cl C X.env) fp) elt (lE X.K te)) (hvs : own.map (·.2) = vs := by rfl) (hin : tgIn tg vs := by simp [tgIn]) (hs : ∀ x, foldedSetIterable iter X.env x = pure x := by intro _; rfl) :
    PE X (.ListComp elt [⟨tgE, iter, ifs, 0⟩] scope pos) (lE X.K (dLc w tg tt te vs)) := by
  subst hvs
  exact imp_E (pe_lc hc hN hi ok hg ht he hs) (lift_lc hin)
theorem ds_setLc (i : Nat) {y : Str} {py : Pos} {elt tgE iter : Expr} {ifs : List Expr} {scope : Scope} {own : List (Str × Nat)} {spos : Pos} {w : DI} {tg : Tg} {tt : DT} (vs : List Nat) (hc : X.calm = true) (hN : X.N.Nodup) (hy : X.N[i]? = some y) (hyl : X.env.scope.names.lookup y = some .local)
    (hsw : swapsWith (.ListComp elt [⟨tgE, iter, ifs, 0⟩] scope pos) (some (.Name y py)) spos.line X.env = pure true) (hi : PI X tgE iter (lI X.K w)) (ok : BlkOk X.N X.env.scope scope own)
    (hg : ∀ (s : Shared) (H : Hp) (C : Addr) (cl : List (Str × Addr)) (fp : List Addr), PG (X.blk s H scope (compEnvC scope cl C X.env) fp) tgE (tgV X.K tg)) (ht : ∀ (s : Shared) (H : Hp) (C : Addr) (cl : List (Str × Addr)) (fp : List Addr), PTs (X.blk s H scope (compEnvC scope cl C X.env) fp) ifs (lT X.K tt))
    (he : ∀ (s : Shared) (H : Hp) (C : Addr) (cl : List (Str × Addr)) (fp : List Addr), PE (X.blk s H scope (compEnvC scope cl C X.env) fp) elt (lE X.K te)) (hvs : own.map (·.2) = vs := by rfl) (hin : tgIn tg vs := by simp [tgIn]) (hs : ∀ x, foldedSetIterable iter X.env x = pure x := by intro _; rfl) :
    PS X (.Assign [.Name y py] (.ListComp elt [⟨tgE, iter, ifs, 0⟩] scope pos) spos) (lS X.K (dAsg (dLc w tg tt te vs) (.nm i))) := by
  subst hvs
  refine imp_S (ps_setLc hc hN hy hyl hsw hi ok hg ht he hs) fun E σ H h => ?_
  obtain ⟨s, μ, Ed, rs, rm, q, f⟩ := lS_of h
  exact lift_lc (te := te) hin σ H _ ⟨s, μ, _, rs, rm, q, fun v H' d μ' st rm' rp q' => f.nx _ _ _ _ st ((rs.stay st).set rp) rm' q'⟩
end
/-! what is forgotten -/
def Fgt (μ' : Mu) (P : Mu → Prop) : Prop := ∃ μ, Sub μ μ' ∧ P μ
def dFgt (t : DE) : DE := fun s μ Q => t s μ fun d μ' => Fgt μ' (Q d)
theorem d_fgt {X : Cx} {e : Expr} {te : DE} (h : PE X e (lE X.K te)) : PE X e (lE X.K (dFgt te)) := imp_E h fun σ H Q ⟨s, μ, Qd, rs, rm, t, fin⟩ =>
  ⟨s, μ, _, rs, rm, t, fun v H' d μ' st rm' rp ⟨μ2, sb, q⟩ => fin v H' d μ2 st (rm'.sub sb) rp q⟩

/-! the rule for a def -/
def dstart (N : List Str) (ds : List D) : DSt := ds.map some ++ List.replicate (N.length - ds.length) none
theorem relS_start {K : PySem.W.Frag} {H : Hp} {N : List Str} {vs : List V} {ds : List D} (r : Reps K H vs ds) : RelS K H (L2.start N vs) (dstart N ds) := by
  have hl := r.length
  refine ⟨by unfold L2.start dstart; simp [hl], fun i d e => ?_⟩
  unfold dstart at e
  unfold L2.start
  by_cases c : i < ds.length
  · rw [List.getElem?_append_left (by simpa using c), List.getElem?_map] at e
    rw [List.getElem?_append_left (by rw [List.length_map, hl]; exact c), List.getElem?_map]
    cases q : ds[i]? with
    | none => rw [q] at e; cases e
    | some d' =>
      rw [q] at e
      cases e
      obtain ⟨v, e1, r1⟩ := r.get q
      exact ⟨v, by rw [e1]; rfl, r1⟩
  · rw [List.getElem?_append_right (by rw [List.length_map]; omega)] at e
    rw [List.getElem?_replicate] at e
    split at e <;> cases e
/-- a def that keeps its promise, as its callers know it -/
structure Callee (P : Program) (w : World) (K : PySem.W.Frag) (mg : Str → Option Value) (base : Heap) (x : Str) (k : Nat) (ps : List Str) (S : SpD) : Prop where
  ex : ∃ f fd, FnOk P w K mg base CX0 k f fd ps (lSp K S) ∧ mg x = some (.ref f) ∧ PySem.W.keepIn K (.ref f) = true ∧ Binds K fd ps []
theorem d_callN {X : Cx} {e : Expr} {es : List Expr} {tr : DA} {pos : Pos} {x : Str} {p : Pos} {k j : Nat} {ps : List Str} {S : SpD} (C : Callee X.prog X.w X.K X.mg X.base x k ps S) (hr : Room j X.A) (hkj : k ≤ j) (hg : Gl X x) (ha : PA X (e :: es) (lA X.K tr)) (hd : (x == ("__debug__" : Str)) = false := by decide)
    (he : starEach (e :: es) X.env = (false, eval e X.env) :: starEach es X.env := by rfl) (hp : (backTo pos (starEach es X.env)).any (·.1) = false := by rfl) : PE X (.Call (.Name x p) (e :: es) [] pos) (lE X.K (dCB S tr)) := by
  obtain ⟨f, fd, F, hm, hk, hb⟩ := C.ex
  exact d_call F (hr.mono hkj) hg hm hk hb ha hd he hp
theorem dfn {P : Program} {w : World} {K : PySem.W.Frag} {mg : Str → Option Value} {base : Heap} {x qual : Str} {st : Stmt} {f : Addr} {fd : FuncData} {N ps : List Str} {k : Nat} {S : SpD} (t : DS) (F : Fun K x qual st f fd) (sc : FnScope N ps (defScope st)) (hlen : ∀ ds μ Q, S ds μ Q → ds.length = ps.length)
    (hder : ∀ (cdv : Value) (A : Around) (outer : List Env) (s : Shared) (H : Hp) (E : XK), Room k (A.deeper (envOfC qual (defScope st) s.heap.objs.size f cdv)) → PSs (cxOf CX0 P w K mg base N qual (defScope st) f cdv A outer s H E).nox (defBody st) (lS K t))
    (hrd : ∀ ds μ Q, S ds μ Q → t { nx := fun _ μ' => Fgt μ' (Q .non), rt := fun d μ' => Fgt μ' (Q d) } (dstart N ds) μ) : FnOk P w K mg base CX0 (k + 1) f fd ps (lSp K S) := by
  refine F.ok sc (fun vs H Q E ⟨ds, μ, Qd, r, _, q, _⟩ => by rw [r.length]; exact hlen _ _ _ q) fun cdv A outer s H vs Q E hr ⟨ds, μ, Qd, r, rm, q, fin⟩ => ?_
  refine ⟨_, hder cdv A outer s H E hr, ?_⟩
  exact ⟨dstart N ds, μ, _, relS_start r, rm, hrd ds μ Qd q, fun σ' H' s' μ' st _ rm' ⟨μ2, sb, q'⟩ => fin .non H' .non μ2 st (rm'.sub sb) .non q', fun v H' d μ' st rm' rp ⟨μ2, sb, q'⟩ => fin v H' d μ2 st (rm'.sub sb) rp q', fun _ _ _ _ _ _ _ z => z.elim, fun _ _ _ _ _ _ _ z => z.elim⟩
end DD
end
section
open PySem PySem.Spec PyProof.Rows L2
set_option Elab.async false
set_option linter.all false
set_option maxRecDepth 100000
namespace DD
variable {X : Cx} {K : PySem.W.Frag}

/-! ints -/
def rInt (C : Int → Int → Prop) (g : Int → Int → D) : D2 := fun x y μ Q => asI x fun i => asI y fun j => C i j ∧ Q (g i j) μ
def rInt0 (g : Int → Int → D) : D2 := fun x y μ Q => asI x fun i => asI y fun j => Q (g i j) μ
theorem od_int {C : Int → Int → Prop} {g : Int → Int → V} {g' : Int → Int → D} (hg : ∀ i j H, Rep K H (g i j) (g' i j)) : OpD K (rI C g) (rInt C g') := by
  intro x y dx dy H μ Q Qd rx ry rm q fin
  obtain ⟨i, rfl, rfl, q⟩ := asI_of rx q
  obtain ⟨j, rfl, rfl, q⟩ := asI_of ry q
  exact ⟨i, j, rfl, rfl, q.1, Fin.now fin rm (hg i j H) q.2⟩
theorem od_int0 {g : Int → Int → V} {g' : Int → Int → D} (hg : ∀ i j H, Rep K H (g i j) (g' i j)) : OpD K (rI0 g) (rInt0 g') := by
  intro x y dx dy H μ Q Qd rx ry rm q fin
  obtain ⟨i, rfl, rfl, q⟩ := asI_of rx q
  obtain ⟨j, rfl, rfl, q⟩ := asI_of ry q
  exact ⟨i, j, rfl, rfl, Fin.now fin rm (hg i j H) q⟩
/-- a product of two ints that are not too long -/
def MulOk (i j : Int) : Prop := IntMulOk i j
theorem MulOk.l {i j : Int} (h : -(2 ^ 64) < i ∧ i < 2 ^ 64) : MulOk i j := CMul.ok (.inl h)
theorem MulOk.r {i j : Int} (h : -(2 ^ 64) < j ∧ j < 2 ^ 64) : MulOk i j := CMul.ok (.inr h)
theorem MulOk.w {i j : Int} (h : CMulW i j) : MulOk i j := h.ok
abbrev rSubD : D2 := rInt0 fun i j => .int (i - j)
abbrev rMulD : D2 := rInt MulOk fun i j => .int (i * j)
abbrev rDivD : D2 := rInt CDivW fun i j => .int (i / j)
abbrev rModD : D2 := rInt (fun _ j => 0 < j) fun i j => .int (i % j)
def CPowW (i j : Int) : Prop := 0 ≤ j ∧ (Builtin.Int.intBits i : Int) * j ≤ 2 ^ 27
abbrev rPowD : D2 := rInt CPowW fun i j => .int (i ^ j.toNat)
abbrev rShlD : D2 := rInt CPow fun i j => .int (i * 2 ^ j.toNat)
abbrev rLtD : D2 := rInt0 fun i j => .bl (decide (i < j))
abbrev rLeD : D2 := rInt0 fun i j => .bl (decide (i ≤ j))
abbrev rGtD : D2 := rInt0 fun i j => .bl (decide (j < i))
abbrev rGeD : D2 := rInt0 fun i j => .bl (decide (j ≤ i))
theorem op_mulA : OpR X (binaryOp .Mult) (rI MulOk fun i j => .int (i * j)) := opI fun _ _ _ _ _ _ _ hc q => mul_int q hc
theorem op_powW : OpR X (binaryOp .Pow) (rI CPowW fun i j => .int (i ^ j.toNat)) := opI fun _ _ _ _ _ _ _ hc q => pow_int hc.1 hc.2 q
theorem od_sub : OpD K (rI0 fun i j => .int (i - j)) rSubD := od_int0 fun _ _ _ => .int _
theorem od_mul : OpD K (rI MulOk fun i j => .int (i * j)) rMulD := od_int fun _ _ _ => .int _
theorem od_div : OpD K (rI CDivW fun i j => .int (i / j)) rDivD := od_int fun _ _ _ => .int _
theorem od_mod : OpD K (rI (fun _ j => 0 < j) fun i j => .int (i % j)) rModD := od_int fun _ _ _ => .int _
theorem od_pow : OpD K (rI CPowW fun i j => .int (i ^ j.toNat)) rPowD := od_int fun _ _ _ => .int _
theorem od_shl : OpD K (rI CPow fun i j => .int (i * 2 ^ j.toNat)) rShlD := od_int fun _ _ _ => .int _
theorem od_lt : OpD K (rI0 fun i j => .bl (decide (i < j))) rLtD := od_int0 fun _ _ _ => .bl _
theorem od_le : OpD K (rI0 fun i j => .bl (decide (i ≤ j))) rLeD := od_int0 fun _ _ _ => .bl _
theorem od_gt : OpD K (rI0 fun i j => .bl (decide (j < i))) rGtD := od_int0 fun _ _ _ => .bl _
theorem od_ge : OpD K (rI0 fun i j => .bl (decide (j ≤ i))) rGeD := od_int0 fun _ _ _ => .bl _
def rNegD : D → Mu → DK → Prop := fun x μ Q => match x with
  | .int i => Q (.int (-i)) μ
  | _ => False
theorem ud_neg : UnD K (rU fun i => .int (-i)) rNegD := by
  intro x dx H μ Q Qd rx rm q fin
  cases rx <;> first | exact ⟨_, rfl, Fin.now fin rm (.int _) q⟩ | exact (show False from q).elim

/-! + -/
def rAddD : D2 := fun x y μ Q => match x, y with
  | .int i, .int j => Q (.int (i + j)) μ
  | .str a, .str b => a.length + b.length ≤ sizeLine ∧ Q (.str (a ++ b)) μ
  | .tup a, .tup b => a.length + b.length ≤ sizeLine ∧ Q (.tup (a ++ b)) μ
  | .obj a, .obj b => ∃ xs ys, μ a = some (.lst xs) ∧ μ b = some (.lst ys) ∧ xs.length + ys.length ≤ sizeLine ∧ ∀ p, μ p = none → Q (.obj p) (put μ p (.lst (xs ++ ys)))
  | _, _ => False
def rAddV (K : PySem.W.Frag) : R2 := fun x y H Q => rI0 (fun i j => .int (i + j)) x y H Q ∨ (∃ i j, x = .str i ∧ y = .str j ∧ i.length + j.length ≤ sizeLine ∧ Q (.str (i ++ j)) H) ∨ rCatA K x y H Q ∨ rCat x y H Q
theorem op_addA : OpR X (binaryOp .Add) (rAddV X.K) := OpR.or op_add (OpR.or op_add_str (OpR.or op_catA op_cat))
theorem od_add : OpD K (rAddV K) rAddD := by
  intro x y dx dy H μ Q Qd rx ry rm q fin
  cases rx with
  | int i =>
    cases ry with
    | int j => exact .inl ⟨i, j, rfl, rfl, Fin.now fin rm (.int _) q⟩
    | _ => exact (show False from q).elim
  | str a =>
    cases ry with
    | str b => exact .inr (.inl ⟨a, b, rfl, rfl, q.1, Fin.now fin rm (.str _) q.2⟩)
    | _ => exact (show False from q).elim
  | tup ha ra =>
    cases ry with
    | tup hb rb =>
      refine .inr (.inr (.inl ⟨_, _, _, _, rfl, rfl, ha, hb, by rw [ra.length, rb.length]; exact q.1, fun e => ?_, fun _ e => ?_, fun _ _ p hp => ?_⟩))
      · subst e
        cases ra
        exact Fin.now fin rm (.tup hb rb) q.2
      · subst e
        cases rb
        have q2 := q.2
        rw [List.append_nil] at q2
        exact Fin.now fin rm (.tup ha ra) q2
      · exact Fin.newT fin rm hp (ra.append rb) q.2
    | _ => exact (show False from q).elim
  | obj a =>
    cases ry with
    | obj b =>
      obtain ⟨xs, ys, e1, e2, hl, q⟩ := q
      obtain ⟨vs, f1, r1⟩ := rm.lst e1
      obtain ⟨ws, f2, r2⟩ := rm.lst e2
      refine .inr (.inr (.inr ⟨a, b, vs, ws, rfl, rfl, f1, f2, by rw [r1.length, r2.length]; exact hl, fun p hp => Fin.newL fin rm hp (r1.append r2) (q p (rm.free hp))⟩))
    | _ => exact (show False from q).elim
  | _ => exact (show False from q).elim

/-! == of plain things -/
def eqD : D → D → Option Bool
  | .int i, .int j => some (decide (i = j))
  | .str a, .str b => some (decide (a = b))
  | .bl a, .bl b => some (decide (a = b))
  | .non, .non => some true
  | .non, .int _ => some false
  | .int _, .non => some false
  | .non, .bl _ => some false
  | .bl _, .non => some false
  | .non, .str _ => some false
  | .str _, .non => some false
  | .int _, .str _ => some false
  | .str _, .int _ => some false
  | .bl _, .str _ => some false
  | .str _, .bl _ => some false
  | _, _ => none
theorem scal_none (x : V) : scal .non x = true ↔ (x = .non ∨ (∃ i, x = .int i) ∨ (∃ b, x = .bl b) ∨ ∃ s, x = .str s) := by
  cases x <;> simp [scal]
def rEqD : D2 := fun x y μ Q => match eqD x y with
  | some b => Q (.bl b) μ
  | none => False
def rNeD : D2 := fun x y μ Q => match eqD x y with
  | some b => Q (.bl (!b)) μ
  | none => False
theorem eqD_ok {H : Hp} {x y : V} {dx dy : D} {b : Bool} (rx : Rep K H x dx) (ry : Rep K H y dy) (e : eqD dx dy = some b) : scal x y = true ∧ decide (x = y) = b := by
  cases rx <;> cases ry <;> first
    | (simp only [eqD, Option.some.injEq, reduceCtorEq] at e)
    | skip
  all_goals (subst e; refine ⟨rfl, ?_⟩; simp)
theorem od_eq : OpD K rEq rEqD := by
  intro x y dx dy H μ Q Qd rx ry rm q fin
  unfold rEqD at q
  split at q
  · rename_i b e
    obtain ⟨h1, h2⟩ := eqD_ok rx ry e
    refine ⟨h1, ?_⟩
    rw [h2]
    exact Fin.now fin rm (.bl b) q
  · exact q.elim
theorem od_ne : OpD K rNe rNeD := by
  intro x y dx dy H μ Q Qd rx ry rm q fin
  unfold rNeD at q
  split at q
  · rename_i b e
    obtain ⟨h1, h2⟩ := eqD_ok rx ry e
    refine ⟨h1, ?_⟩
    rw [h2]
    exact Fin.now fin rm (.bl _) q
  · exact q.elim

/-! dicts -/
def getD {κ : Type} [DecidableEq κ] (kvs : List (κ × D)) (k : κ) : Option D := (kvs.find? fun kv => decide (kv.1 = k)).map (·.2)
def putD {κ : Type} [DecidableEq κ] (kvs : List (κ × D)) (k : κ) (v : D) : List (κ × D) := if kvs.any (fun kv => decide (kv.1 = k)) then kvs.map (fun kv => if kv.1 = k then (kv.1, v) else kv) else kvs ++ [(k, v)]
theorem krep_get {κ : Type} [DecidableEq κ] {H : Hp} {ks : List (κ × V)} {kvs : List (κ × D)} (r : KRep K H ks kvs) (k : κ) : (getD kvs k = none → valV ks k = none) ∧ ∀ d, getD kvs k = some d → ∃ v, valV ks k = some v ∧ Rep K H v d := by
  induction r with
  | nil => exact ⟨fun _ => rfl, fun d e => by simp [getD] at e⟩
  | @cons p q l1 l2 h t ih =>
    obtain ⟨e1, r1⟩ := h
    by_cases c : q.1 = k
    · refine ⟨fun e => ?_, fun d e => ?_⟩
      · simp [getD, c] at e
      · have : d = q.2 := by simpa [getD, c] using e.symm
        subst this
        exact ⟨p.2, valV_pos (e1.trans c), r1⟩
    · have c' : ¬ p.1 = k := fun z => c (e1.symm.trans z)
      have eq : getD (q :: l2) k = getD l2 k := by
        unfold getD
        rw [List.find?_cons, decide_eq_false c]
      rw [valV_neg c']
      rw [eq]
      exact ih
theorem krep_any {κ : Type} [DecidableEq κ] {H : Hp} {ks : List (κ × V)} {kvs : List (κ × D)} (r : KRep K H ks kvs) (k : κ) : (ks.any fun kv => decide (kv.1 = k)) = kvs.any fun kv => decide (kv.1 = k) := by
  induction r with
  | nil => rfl
  | @cons p q _ _ h t ih => rw [List.any_cons, List.any_cons, ih, h.1]
theorem krep_len {κ : Type} {H : Hp} {ks : List (κ × V)} {kvs : List (κ × D)} (r : KRep K H ks kvs) : ks.length = kvs.length := Paired.length r
theorem krep_keys {κ : Type} {H : Hp} {ks : List (κ × V)} {kvs : List (κ × D)} (r : KRep K H ks kvs) : ks.map (·.1) = kvs.map (·.1) := by
  induction r with
  | nil => rfl
  | cons h t ih => rw [List.map_cons, List.map_cons, ih, h.1]
theorem krep_vals {κ : Type} {H : Hp} {ks : List (κ × V)} {kvs : List (κ × D)} (r : KRep K H ks kvs) : Reps K H (ks.map (·.2)) (kvs.map (·.2)) := by
  induction r with
  | nil => exact .nil
  | cons h t ih => exact .cons h.2 ih
theorem krep_map {κ : Type} {H : Hp} {f : κ × V → κ × V} {g : κ × D → κ × D} (hfg : ∀ p q, (p.1 = q.1 ∧ Rep K H p.2 q.2) → ((f p).1 = (g q).1 ∧ Rep K H (f p).2 (g q).2)) {ks : List (κ × V)} {kvs : List (κ × D)} (r : KRep K H ks kvs) : KRep K H (ks.map f) (kvs.map g) := by
  induction r with
  | nil => exact .nil
  | cons h t ih => exact .cons (hfg _ _ h) ih
theorem krep_app {κ : Type} {H : Hp} {ks ls : List (κ × V)} {kvs lvs : List (κ × D)} (r : KRep K H ks kvs) (t : KRep K H ls lvs) : KRep K H (ks ++ ls) (kvs ++ lvs) := by
  induction r with
  | nil => exact t
  | cons h t ih => exact .cons h ih
theorem krep_put {κ : Type} [DecidableEq κ] {H : Hp} {ks : List (κ × V)} {kvs : List (κ × D)} (r : KRep K H ks kvs) (k : κ) {v : V} {d : D} (rv : Rep K H v d) : KRep K H (putK ks k v) (putD kvs k d) := by
  unfold putK putD
  rw [krep_any r k]
  split
  · refine krep_map (fun p q h => ?_) r
    rw [h.1]
    split
    · exact ⟨rfl, rv⟩
    · exact h
  · exact krep_app r (.cons ⟨rfl, rv⟩ .nil)
/-- the key that a datum is -/
def keyD : D → Option Key
  | .int i => some (.inl i)
  | .str x => some (.inr x)
  | _ => none
theorem keyD_ok {H : Hp} {y : V} {d : D} {k : Key} (r : Rep K H y d) (e : keyD d = some k) : y = kV k := by
  cases r <;> simp only [keyD, Option.some.injEq, reduceCtorEq] at e <;> (subst e; rfl)

/-! subscripts -/
def rIxD : D2 := fun x y μ Q => match x, y with
  | .tup ds, .int i => (match atI ds i with | some d => Q d μ | none => False)
  | .rol ds, .int i => (match atI ds i with | some d => Q d μ | none => False)
  | .str z, .int i => z.length ≤ sizeLine ∧ (match atI z.cps.toList i with | some c => Q (.str ⟨#[c]⟩) μ | none => False)
  | .obj a, y => (match μ a with
    | some (.lst ds) => asI y fun i => (match atI ds i with | some d => Q d μ | none => False)
    | some (.dK kvs) => (match keyD y with | some k => (match getD kvs k with | some d => Q d μ | none => False) | none => False)
    | _ => False)
  | _, _ => False
theorem ix_dictA (hu : X.A.units + 1 < cLine) : IxR X (fun x y H Q => ∃ a v, x = .ref a ∧ DGet H a y (some v) ∧ Q v H) := by
  intro value slice pins s σ H x y v u Q I rx ry h hs
  obtain ⟨a, w, rfl, g, q⟩ := h
  obtain rfl : v = Value.ref a := rx
  exact tail_any (dict_typeIs I g) PySem.F.slot_dict_getitem.lookup (d_getItem hu I g ry fun w' s3 I3 rw' => ⟨w, H, I3, rw', q⟩) hs
def rIxA (K : PySem.W.Frag) : R2 := fun x y H Q => rIx K x y H Q ∨ ∃ a v, x = .ref a ∧ DGet H a y (some v) ∧ Q v H
theorem ix_any (hu : X.A.units + 1 < cLine) : IxR X (rIxA X.K) := IxR.or ix_seq (ix_dictA hu)
theorem atI_rep {H : Hp} {xs : List V} {ds : List D} {i : Int} {d : D} (r : Reps K H xs ds) (e : atI ds i = some d) : ∃ v, atI xs i = some v ∧ Rep K H v d := by
  unfold atI at e ⊢
  rw [r.length]
  cases h : ixN ds.length i with
  | none => rw [h] at e; cases e
  | some j =>
    rw [h] at e
    obtain ⟨v, h1, h2⟩ := r.get (show ds[j]? = some d from e)
    exact ⟨v, h1, h2⟩
theorem od_ix : OpD K (rIxA K) rIxD := by
  intro x y dx dy H μ Q Qd rx ry rm q fin
  have seq : ∀ {ds : List D} {i : Int} {P : D → Prop}, (match atI ds i with | some d => P d | none => False) → ∃ d, atI ds i = some d ∧ P d := fun {ds i P} h => by
    split at h
    · rename_i d e; exact ⟨d, e, h⟩
    · exact h.elim
  cases rx with
  | tup ha ra =>
    cases ry with
    | int i =>
      obtain ⟨d, e, q⟩ := seq (P := fun d => Qd d μ) q
      obtain ⟨v, e1, r1⟩ := atI_rep ra e
      exact .inl (.inr (.inl ⟨_, _, i, v, rfl, rfl, ha, e1, Fin.now fin rm r1 q⟩))
    | _ => exact (show False from q).elim
  | rol ha ra =>
    cases ry with
    | int i =>
      obtain ⟨d, e, q⟩ := seq (P := fun d => Qd d μ) q
      obtain ⟨v, e1, r1⟩ := atI_rep ra e
      exact .inl (.inl ⟨_, _, i, v, rfl, rfl, ha _ (Stay.refl _), e1, Fin.now fin rm r1 q⟩)
    | _ => exact (show False from q).elim
  | str z =>
    cases ry with
    | int i =>
      obtain ⟨hz, q⟩ := (show z.length ≤ sizeLine ∧ (match atI z.cps.toList i with | some c => Qd (.str ⟨#[c]⟩) μ | none => False) from q)
      split at q
      · rename_i c e
        exact .inl (.inr (.inr ⟨z, i, c, rfl, rfl, hz, e, Fin.now fin rm (.str _) q⟩))
      · exact q.elim
    | _ => exact (show False from q).elim
  | obj a =>
    have q : (match μ a with
      | some (.lst ds) => asI dy fun i => (match atI ds i with | some d => Qd d μ | none => False)
      | some (.dK kvs) => (match keyD dy with | some k => (match getD kvs k with | some d => Qd d μ | none => False) | none => False)
      | _ => False) := by
      cases ry <;> exact q
    split at q
    · rename_i ds em
      obtain ⟨i, rfl, rfl, q⟩ := asI_of ry q
      obtain ⟨d, e, q⟩ := seq (P := fun d => Qd d μ) q
      obtain ⟨xs, e1, r1⟩ := rm.lst em
      obtain ⟨v, e2, r2⟩ := atI_rep r1 e
      exact .inl (.inl ⟨a, xs, i, v, rfl, rfl, SqL.of e1, e2, Fin.now fin rm r2 q⟩)
    · rename_i kvs em
      split at q
      · rename_i k ek
        split at q
        · rename_i d ed
          obtain ⟨ks, e1, r1⟩ := rm.dk em
          obtain ⟨v, e2, r2⟩ := (krep_get r1 k).2 d ed
          refine .inr ⟨a, v, rfl, ?_, Fin.now fin rm r2 q⟩
          rw [keyD_ok ry ek, ← e2]
          exact DGet.k e1
        · exact q.elim
      · exact q.elim
    · exact q.elim
  | _ => exact (show False from q).elim
/-- o[i] = v -/
def rPutD : D → D → D → Mu → (Mu → Prop) → Prop := fun o i v μ Q => match o with
  | .obj a => (match μ a with
    | some (.lst ds) => asI i fun k => (match ixN ds.length k with | some j => Q (put μ a (.lst (ds.set j v))) | none => False)
    | some (.dK kvs) => (match keyD i with | some k => kvs.length < sizeLine ∧ Q (put μ a (.dK (putD kvs k v))) | none => False)
    | _ => False)
  | _ => False
def rPutV : V → V → V → Hp → (Hp → Prop) → Prop := fun o i v H Q => rSetL o i v H Q ∨ rSetD o i v H Q
theorem set_any (hu : X.A.units + 1 < cLine) : PSet X rPutV := by
  intro pins s σ H o i v ov iv u Q I r1 r2 r3 q
  rcases q with q | q
  · exact set_list pins s σ H o i v ov iv u Q I r1 r2 r3 q
  · exact set_dict hu pins s σ H o i v ov iv u Q I r1 r2 r3 q
theorem sd_any : SetD K rPutV rPutD := by
  intro o i v dO dI dV H μ Q Qd ro ri rv rm q fin
  cases ro with
  | obj a =>
    have q : (match μ a with
      | some (.lst ds) => asI dI fun k => (match ixN ds.length k with | some j => Qd (put μ a (.lst (ds.set j dV))) | none => False)
      | some (.dK kvs) => (match keyD dI with | some k => kvs.length < sizeLine ∧ Qd (put μ a (.dK (putD kvs k dV))) | none => False)
      | _ => False) := q
    split at q
    · rename_i ds em
      obtain ⟨k, rfl, rfl, q5⟩ := asI_of ri q
      split at q5
      · rename_i j ej
        obtain ⟨xs, e1, r1⟩ := rm.lst em
        exact .inl ⟨a, xs, k, j, rfl, rfl, e1, by rw [r1.length]; exact ej, fin _ _ (Stay.put e1 True.intro) (rm.wrL e1 (r1.set j rv)) q5⟩
      · exact q5.elim
    · rename_i kvs em
      split at q
      · rename_i k ek
        obtain ⟨ks, e1, r1⟩ := rm.dk em
        refine .inr ⟨a, upd H a (.dK (putK ks k v)), rfl, ?_, fin _ _ (Stay.put e1 True.intro) (rm.wrD e1 (krep_put r1 k rv)) q.2⟩
        rw [keyD_ok ri ek]
        exact DPut.k e1 (by rw [krep_len r1]; exact q.1)
      · exact q.elim
    · exact q.elim
  | _ => exact (show False from q).elim

/-! in -/
def rInDictD : D2 := fun x y μ Q => match y with
  | .obj a => (match μ a with
    | some (.dK kvs) => (match keyD x with | some k => Q (.bl (getD kvs k).isSome) μ | none => False)
    | _ => False)
  | _ => False
def rNotInDictD : D2 := fun x y μ Q => rInDictD x y μ fun d μ' => asB d fun b => Q (.bl (!b)) μ'
theorem op_inDict (hu : X.A.units + 1 < cLine) : OpR X (compareOp .In) (fun y x H Q => ∃ a o, x = .ref a ∧ DGet H a y o ∧ Q (.bl o.isSome) H) := by
  intro pins s σ H y x v u Q I ry rx h
  obtain ⟨a, o, rfl, g, q⟩ := h
  obtain rfl : u = Value.ref a := rx
  exact d_in hu I g ry fun s3 I3 => ⟨.bl o.isSome, H, I3, rfl, q⟩
theorem op_notInDict (hu : X.A.units + 1 < cLine) : OpR X (compareOp .NotIn) (fun y x H Q => ∃ a o, x = .ref a ∧ DGet H a y o ∧ Q (.bl (!o.isSome)) H) := by
  intro pins s σ H y x v u Q I ry rx h
  obtain ⟨a, o, rfl, g, q⟩ := h
  obtain rfl : u = Value.ref a := rx
  exact d_notIn hu I g ry fun s3 I3 => ⟨.bl (!o.isSome), H, I3, rfl, q⟩
theorem inDict_aux {H : Hp} {μ : Mu} {x y : V} {dx dy : D} {P : Bool → Prop} (rx : Rep K H x dx) (ry : Rep K H y dy) (rm : Rel K H μ) (q : rInDictD dx dy μ fun d _ => asB d P) : ∃ a o, y = .ref a ∧ DGet H a x o ∧ P o.isSome := by
  cases ry with
  | obj a =>
    have q : (match μ a with
      | some (.dK kvs) => (match keyD dx with | some k => asB (.bl (getD kvs k).isSome) P | none => False)
      | _ => False) := q
    split at q
    · rename_i kvs em
      split at q
      · rename_i k ek
        obtain ⟨ks, e1, r1⟩ := rm.dk em
        obtain ⟨n1, n2⟩ := krep_get r1 k
        refine ⟨a, valV ks k, rfl, by rw [keyD_ok rx ek]; exact DGet.k e1, ?_⟩
        have q : P (getD kvs k).isSome := q
        cases hg : getD kvs k with
        | none => rw [n1 hg]; rw [hg] at q; exact q
        | some d =>
          obtain ⟨v, e2, _⟩ := n2 d hg
          rw [e2]; rw [hg] at q; exact q
      · exact q.elim
    · exact q.elim
  | _ => exact (show False from q).elim
theorem inDict_same {dx dy : D} {μ : Mu} {Qd : DK} (q : rInDictD dx dy μ Qd) : rInDictD dx dy μ fun d _ => asB d fun b => Qd (.bl b) μ := by
  unfold rInDictD at q ⊢
  split at q
  · split at q
    · split at q
      · exact q
      · exact q.elim
    · exact q.elim
  · exact q.elim
theorem od_inDict : OpD K (fun y x H Q => ∃ a o, x = .ref a ∧ DGet H a y o ∧ Q (.bl o.isSome) H) rInDictD := by
  intro x y dx dy H μ Q Qd rx ry rm q fin
  obtain ⟨a, o, e, g, p⟩ := inDict_aux rx ry rm (inDict_same q)
  exact ⟨a, o, e, g, Fin.now fin rm (.bl _) p⟩
theorem od_notInDict : OpD K (fun y x H Q => ∃ a o, x = .ref a ∧ DGet H a y o ∧ Q (.bl (!o.isSome)) H) rNotInDictD := by
  intro x y dx dy H μ Q Qd rx ry rm q fin
  obtain ⟨a, o, e, g, p⟩ := inDict_aux rx ry rm (inDict_same (Qd := fun d μ' => asB d fun b => Qd (.bl (!b)) μ') q)
  exact ⟨a, o, e, g, Fin.now fin rm (.bl _) p⟩

/-! slices -/
def cutD (ds : List D) (lo hi : Option Int) : List D := (ds.drop (HT.sIx ds.length 0 lo)).take (HT.sIx ds.length ds.length hi - HT.sIx ds.length 0 lo)
def rSlD : DSl := fun x lo hi μ Q => match x with
  | .tup ds => Q (.tup (cutD ds lo hi)) μ
  | .rol ds => ∀ p, μ p = none → Q (.obj p) (put μ p (.lst (cutD ds lo hi)))
  | .obj a => (match μ a with
    | some (.lst ds) => ∀ p, μ p = none → Q (.obj p) (put μ p (.lst (cutD ds lo hi)))
    | _ => False)
  | _ => False
def rSlV (K : PySem.W.Frag) : V → Option Int → Option Int → Hp → VK → Prop := fun x lo hi H Q => rSlA K x lo hi H Q ∨ rSlL K x lo hi H Q
theorem sl_any : SlR X (rSlV X.K) := SlR.or sl_tupA sl_list
theorem cut_rep {H : Hp} {xs : List V} {ds : List D} (r : Reps K H xs ds) (lo hi : Option Int) : Reps K H (cutV xs lo hi) (cutD ds lo hi) := by
  unfold cutV cutD
  rw [r.length]
  exact (r.drop _).take _
theorem sd_sl : SlD K (rSlV K) rSlD := by
  intro x dx lo hi H μ Q Qd rx rm q fin
  cases rx with
  | tup ha ra =>
    refine .inl ⟨_, _, rfl, ha, fun hw => ?_, fun _ p hp => Fin.newT fin rm hp (cut_rep ra lo hi) q⟩
    refine Fin.now fin rm (.tup ha ra) ?_
    have q2 : Qd (.tup (cutD _ lo hi)) μ := q
    unfold cutD at q2
    rw [← ra.length, hw.1, hw.2, List.drop_zero, Nat.sub_zero, ra.length, List.take_length] at q2
    exact q2
  | rol ha ra => exact .inr ⟨_, _, rfl, ha _ (Stay.refl _), fun p hp => Fin.newL fin rm hp (cut_rep ra lo hi) (q p (rm.free hp))⟩
  | obj a =>
    have q : (match μ a with
      | some (.lst ds) => ∀ p, μ p = none → Qd (.obj p) (put μ p (.lst (cutD ds lo hi)))
      | _ => False) := q
    split at q
    · rename_i ds em
      obtain ⟨xs, e1, r1⟩ := rm.lst em
      exact .inr ⟨a, xs, rfl, SqL.of e1, fun p hp => Fin.newL fin rm hp (cut_rep r1 lo hi) (q p (rm.free hp))⟩
    · exact q.elim
  | _ => exact (show False from q).elim
/-- xs[::-1] of a list -/
def dRev (te : DE) : DE := fun s μ Q => te s μ fun x μ1 => match x with
  | .rol ds => ∀ p, μ1 p = none → Q (.obj p) (put μ1 p (.lst ds.reverse))
  | .obj a => (match μ1 a with
    | some (.lst ds) => ∀ p, μ1 p = none → Q (.obj p) (put μ1 p (.lst ds.reverse))
    | _ => False)
  | _ => False
theorem d_rev {e : Expr} {te : DE} {k : Nat} {p1 p2 p3 pos : Pos} (he : PE X e (lE X.K te)) : PE X (.Subscript e (.Slice none none (some (.UnaryOp .USub (.Constant (.int 1) k p1) p2)) p3) pos) (lE X.K (dRev te)) :=
  imp_E (pe_revL he) fun σ H Q ⟨s, μ, Qd, rs, rm, t, fin⟩ => by
    refine ⟨s, μ, _, rs, rm, t, fun v1 H1 d1 μ1 st1 rm1 rp1 q1 => ?_⟩
    have fin1 := Fin.stay fin st1
    cases rp1 with
    | rol ha ra => exact ⟨_, _, rfl, ha _ (Stay.refl _), fun p hp => Fin.newL fin1 rm1 hp ra.reverse (q1 p (rm1.free hp))⟩
    | obj a =>
      have q : (match μ1 a with
        | some (.lst ds) => ∀ p, μ1 p = none → Qd (.obj p) (put μ1 p (.lst ds.reverse))
        | _ => False) := q1
      split at q
      · rename_i ds em
        obtain ⟨xs, e1, r1⟩ := rm1.lst em
        exact ⟨a, xs, rfl, SqL.of e1, fun p hp => Fin.newL fin1 rm1 hp r1.reverse (q p (rm1.free hp))⟩
      · exact q.elim
    | _ => exact (show False from q1).elim
end DD
end
section
open PySem PySem.Spec PyProof.Rows L2
set_option Elab.async false
set_option linter.all false
set_option maxRecDepth 100000
namespace DD
variable {X : Cx} {K : PySem.W.Frag}
theorem reps1 {H : Hp} {xs : List V} {P : D → Prop} {ds : List D} (r : Reps K H xs ds) (h : match ds with | [d] => P d | _ => False) : ∃ x d, xs = [x] ∧ ds = [d] ∧ Rep K H x d ∧ P d := by
  cases r with
  | nil => exact h.elim
  | cons a t =>
    cases t with
    | nil => exact ⟨_, _, rfl, rfl, a, h⟩
    | cons _ _ => exact h.elim
theorem reps2 {H : Hp} {xs : List V} {P : D → D → Prop} {ds : List D} (r : Reps K H xs ds) (h : match ds with | [d, e] => P d e | _ => False) : ∃ x y d e, xs = [x, y] ∧ ds = [d, e] ∧ Rep K H x d ∧ Rep K H y e ∧ P d e := by
  cases r with
  | nil => exact h.elim
  | cons a t =>
    cases t with
    | nil => exact h.elim
    | cons b u =>
      cases u with
      | nil => exact ⟨_, _, _, _, rfl, rfl, a, b, h⟩
      | cons _ _ => exact h.elim
def as1 (ds : List D) (P : D → Prop) : Prop := match ds with
  | [d] => P d
  | _ => False
def as2 (ds : List D) (P : D → D → Prop) : Prop := match ds with
  | [d, e] => P d e
  | _ => False
theorem as1_of {H : Hp} {xs : List V} {P : D → Prop} {ds : List D} (r : Reps K H xs ds) (h : as1 ds P) : ∃ x d, xs = [x] ∧ ds = [d] ∧ Rep K H x d ∧ P d := by
  cases r with
  | nil => exact (show False from h).elim
  | cons a t =>
    cases t with
    | nil => exact ⟨_, _, rfl, rfl, a, h⟩
    | cons _ _ => exact (show False from h).elim
theorem as2_of {H : Hp} {xs : List V} {P : D → D → Prop} {ds : List D} (r : Reps K H xs ds) (h : as2 ds P) : ∃ x y d e, xs = [x, y] ∧ ds = [d, e] ∧ Rep K H x d ∧ Rep K H y e ∧ P d e := by
  cases r with
  | nil => exact (show False from h).elim
  | cons a t =>
    cases t with
    | nil => exact (show False from h).elim
    | cons b u =>
      cases u with
      | nil => exact ⟨_, _, _, _, rfl, rfl, a, b, h⟩
      | cons _ _ => exact (show False from h).elim
/-- the items of a list or a tuple -/
def seqD (d : D) (μ : Mu) : Option (List D) := match d with
  | .tup ds => some ds
  | .rol ds => some ds
  | .obj a => (match μ a with | some (.lst ds) => some ds | _ => none)
  | _ => none
theorem seqD_of {H : Hp} {μ : Mu} {x : V} {d : D} {ds : List D} (r : Rep K H x d) (rm : Rel K H μ) (e : seqD d μ = some ds) : ∃ a xs, x = .ref a ∧ Reps K H xs ds ∧ ((SqL K H a xs ∧ ∀ es, d ≠ .tup es) ∨ (SqT K H a xs ∧ d = .tup ds)) := by
  cases r with
  | tup h r => cases e; exact ⟨_, _, rfl, r, .inr ⟨h, rfl⟩⟩
  | rol h r => cases e; exact ⟨_, _, rfl, r, .inl ⟨h _ (Stay.refl _), fun _ z => nomatch z⟩⟩
  | obj a =>
    have e : (match μ a with | some (.lst ds) => some ds | _ => none) = some ds := e
    split at e
    · rename_i es em
      cases e
      obtain ⟨xs, e1, r1⟩ := rm.lst em
      exact ⟨a, xs, rfl, r1, .inl ⟨SqL.of e1, fun _ z => nomatch z⟩⟩
    · cases e
  | _ => cases e
def asSeq (d : D) (μ : Mu) (P : List D → Prop) : Prop := match seqD d μ with
  | some ds => P ds
  | none => False
theorem asSeq_of {H : Hp} {μ : Mu} {x : V} {d : D} {P : List D → Prop} (r : Rep K H x d) (rm : Rel K H μ) (h : asSeq d μ P) : ∃ a xs ds, x = .ref a ∧ Reps K H xs ds ∧ ((SqL K H a xs ∧ ∀ es, d ≠ .tup es) ∨ (SqT K H a xs ∧ d = .tup ds)) ∧ P ds := by
  unfold asSeq at h
  split at h
  · rename_i ds e
    obtain ⟨a, xs, p1, p2, p3⟩ := seqD_of r rm e
    exact ⟨a, xs, ds, p1, p2, p3, h⟩
  · exact h.elim

/-! len, abs, int, str, max, min -/
def rLenD : DCl := fun ds μ Q => as1 ds fun d => match d with
  | .str z => z.length ≤ sizeLine ∧ Q (.int z.length) μ
  | .obj a => (match μ a with | some (.lst xs) => Q (.int xs.length) μ | some (.dK kvs) => Q (.int kvs.length) μ | _ => False)
  | .tup xs => Q (.int xs.length) μ
  | .rol xs => Q (.int xs.length) μ
  | _ => False
def rLenV (K : PySem.W.Frag) : List V → Hp → VK → Prop := fun xs H Q => (∃ p ys, xs = [.ref p] ∧ (SqL K H p ys ∨ SqT K H p ys) ∧ Q (.int ys.length) H) ∨ (∃ z, xs = [.str z] ∧ z.length ≤ sizeLine ∧ Q (.int z.length) H) ∨ ∃ a kvs, xs = [V.ref a] ∧ H a = some (.dK kvs) ∧ Q (.int kvs.length) H
theorem call_lenA : CallR X (.builtin "len") (rLenV X.K) := CallR.or call_len_seq (CallR.or call_len_str call_lenD)
theorem cd_len : ClD K (rLenV K) rLenD := by
  intro vs ds H μ Q Qd rs rm q fin
  obtain ⟨x, d, rfl, rfl, r, q⟩ := as1_of rs q
  cases r with
  | str z => exact .inr (.inl ⟨z, rfl, q.1, Fin.now fin rm (.int _) q.2⟩)
  | tup h r => exact .inl ⟨_, _, rfl, .inr h, by rw [r.length]; exact Fin.now fin rm (.int _) q⟩
  | rol h r => exact .inl ⟨_, _, rfl, .inl (h _ (Stay.refl _)), by rw [r.length]; exact Fin.now fin rm (.int _) q⟩
  | obj a =>
    have q : (match μ a with | some (.lst xs) => Qd (.int xs.length) μ | some (.dK kvs) => Qd (.int kvs.length) μ | _ => False) := q
    split at q
    · rename_i xs em
      obtain ⟨ys, e1, r1⟩ := rm.lst em
      exact .inl ⟨a, ys, rfl, .inl (SqL.of e1), by rw [r1.length]; exact Fin.now fin rm (.int _) q⟩
    · rename_i kvs em
      obtain ⟨ks, e1, r1⟩ := rm.dk em
      exact .inr (.inr ⟨a, ks, rfl, e1, by rw [krep_len r1]; exact Fin.now fin rm (.int _) q⟩)
    · exact q.elim
  | _ => exact (show False from q).elim
def rAbsD : DCl := fun ds μ Q => as1 ds fun d => asI d fun i => Q (.int (if i < 0 then -i else i)) μ
theorem cd_abs : ClD K (fun xs H Q => ∃ i, xs = [V.int i] ∧ Q (.int (if i < 0 then -i else i)) H) rAbsD := by
  intro vs ds H μ Q Qd rs rm q fin
  obtain ⟨x, d, rfl, rfl, r, q⟩ := as1_of rs q
  obtain ⟨i, rfl, rfl, q⟩ := asI_of r q
  exact ⟨i, rfl, Fin.now fin rm (.int _) q⟩
def rToIntD : DCl := fun ds μ Q => as1 ds fun d => match d with
  | .int i => Q (.int i) μ
  | .bl b => Q (.int (if b = true then 1 else 0)) μ
  | _ => False
theorem cd_toInt : ClD K (fun xs H Q => (∃ i, xs = [V.int i] ∧ Q (.int i) H) ∨ ∃ k, xs = [V.bl k] ∧ Q (.int (if k then 1 else 0)) H) rToIntD := by
  intro vs ds H μ Q Qd rs rm q fin
  obtain ⟨x, d, rfl, rfl, r, q⟩ := as1_of rs q
  cases r with
  | int i => exact .inl ⟨i, rfl, Fin.now fin rm (.int _) q⟩
  | bl b => exact .inr ⟨b, rfl, Fin.now fin rm (.int _) q⟩
  | _ => exact (show False from q).elim
def rToStrD : DCl := fun ds μ Q => as1 ds fun d => asI d fun i => i.natAbs.log2 < 1920 ∧ Q (.str (Str.ofString (toString i))) μ
theorem cd_toStr : ClD K (fun xs H Q => ∃ i, xs = [V.int i] ∧ i.natAbs.log2 < 1920 ∧ Q (.str (toString i)) H) rToStrD := by
  intro vs ds H μ Q Qd rs rm q fin
  obtain ⟨x, d, rfl, rfl, r, q⟩ := as1_of rs q
  obtain ⟨i, rfl, rfl, q⟩ := asI_of r q
  exact ⟨i, rfl, q.1, Fin.now fin rm (.str _) q.2⟩
/-- of two ints, or of a list of ints -/
def rMaxD : DCl := fun ds μ Q => match ds with
  | [.int i, .int j] => Q (.int (max i j)) μ
  | [d] => asSeq d μ fun es => (∀ xs, d ≠ .tup xs) ∧ ∃ ns : List Int, es = ns.map D.int ∧ ns ≠ [] ∧ ∀ m, m ∈ ns → (∀ y ∈ ns, y ≤ m) → Q (.int m) μ
  | _ => False
def rMinD : DCl := fun ds μ Q => match ds with
  | [.int i, .int j] => Q (.int (min i j)) μ
  | [d] => asSeq d μ fun es => (∀ xs, d ≠ .tup xs) ∧ ∃ ns : List Int, es = ns.map D.int ∧ ns ≠ [] ∧ ∀ m, m ∈ ns → (∀ y ∈ ns, m ≤ y) → Q (.int m) μ
  | _ => False
def rMaxV (K : PySem.W.Frag) : List V → Hp → VK → Prop := fun xs H Q => (∃ i j, xs = [.int i, .int j] ∧ Q (.int (if j > i then j else i)) H) ∨ rMax K xs H Q
def rMinV (K : PySem.W.Frag) : List V → Hp → VK → Prop := fun xs H Q => (∃ i j, xs = [.int i, .int j] ∧ Q (.int (if j < i then j else i)) H) ∨ rMin K xs H Q
theorem call_maxA (hc : X.calm = true) : CallR X (.builtin "max") (rMaxV X.K) := CallR.or (call_max2 hc) (cr_max hc)
theorem call_minA (hc : X.calm = true) : CallR X (.builtin "min") (rMinV X.K) := CallR.or (call_min2 hc) (cr_min hc)
theorem cd_max : ClD K (rMaxV K) rMaxD := by
  intro vs ds H μ Q Qd rs rm q fin
  unfold rMaxD at q
  split at q
  · rename_i i j
    obtain ⟨x, y, d, e, rfl, he, r1, r2, _⟩ := as2_of (P := fun _ _ => True) rs True.intro
    cases he
    cases r1
    cases r2
    refine .inl ⟨i, j, rfl, ?_⟩
    have e : (if j > i then j else i) = max i j := by omega
    rw [e]
    exact Fin.now fin rm (.int _) q
  · rename_i d
    obtain ⟨x, d', rfl, he, r, _⟩ := as1_of (P := fun _ => True) rs True.intro
    cases he
    obtain ⟨a, xs, es, rfl, rr, hs, hnt, ns, rfl, hne, q⟩ := asSeq_of r rm q
    rcases hs with ⟨hs, _⟩ | ⟨_, z⟩
    · have ex := rr.ints
      subst ex
      exact .inr ⟨a, ns, rfl, hs, List.length_pos_iff.mpr hne, fun m hm hmx => Fin.now fin rm (.int _) (q m hm hmx)⟩
    · exact absurd z (hnt _)
  · exact q.elim
theorem cd_min : ClD K (rMinV K) rMinD := by
  intro vs ds H μ Q Qd rs rm q fin
  unfold rMinD at q
  split at q
  · rename_i i j
    obtain ⟨x, y, d, e, rfl, he, r1, r2, _⟩ := as2_of (P := fun _ _ => True) rs True.intro
    cases he
    cases r1
    cases r2
    refine .inl ⟨i, j, rfl, ?_⟩
    have e : (if j < i then j else i) = min i j := by omega
    rw [e]
    exact Fin.now fin rm (.int _) q
  · rename_i d
    obtain ⟨x, d', rfl, he, r, _⟩ := as1_of (P := fun _ => True) rs True.intro
    cases he
    obtain ⟨a, xs, es, rfl, rr, hs, hnt, ns, rfl, hne, q⟩ := asSeq_of r rm q
    rcases hs with ⟨hs, _⟩ | ⟨_, z⟩
    · have ex := rr.ints
      subst ex
      exact .inr ⟨a, ns, rfl, hs, List.length_pos_iff.mpr hne, fun m hm hmx => Fin.now fin rm (.int _) (q m hm hmx)⟩
    · exact absurd z (hnt _)
  · exact q.elim

/-! sorted -/
def rSortedD : DCl := fun ds μ Q => as1 ds fun d => (∀ es, d ≠ .tup es) ∧
  ((∃ ns : List Int, seqD d μ = some (ns.map D.int) ∧ ∀ (ns' : List Int) p, ns'.Perm ns → ns'.Pairwise (· ≤ ·) → μ p = none → Q (.obj p) (put μ p (.lst (ns'.map D.int)))) ∨
  (∃ xs : List Str, seqD d μ = some (xs.map D.str) ∧ xs.length < 64 ∧ ∀ (ys : List Str) p, ys.Perm xs → sortedS ys = true → μ p = none → Q (.obj p) (put μ p (.lst (ys.map D.str)))) ∨
  ∃ (a : Addr) (kvs : List (Key × D)) (ks : List Int), d = .obj a ∧ μ a = some (.dK kvs) ∧ kvs.map (·.1) = ks.map Sum.inl ∧ ks.length < 64 ∧ ∀ (ns' : List Int) p, ns'.Perm ks → ns'.Pairwise (· ≤ ·) → μ p = none → Q (.obj p) (put μ p (.lst (ns'.map D.int))))
def rSortedV (K : PySem.W.Frag) : List V → Hp → VK → Prop := fun vs H Q => rSortedI K vs H Q ∨ rSortedS K vs H Q ∨ (∃ (a : Addr) (kvs : List (Key × V)) (ks : List Int), vs = [.ref a] ∧ Rd H a (.dK kvs) ∧ kvs.map (·.1) = ks.map Sum.inl ∧ ks.length < 64 ∧
    ∀ (ys : List Int) (p : Addr), ys.Perm ks → ys.Pairwise (· ≤ ·) → H p = none → Q (.ref p) (upd H p (.lst (ys.map V.int))))
theorem call_sortedA (hc : X.calm = true) : CallR X (.builtin "sorted") (rSortedV X.K) := CallR.or cr_sortedI (CallR.or cr_sortedS (call_sortedDI hc))
theorem cd_sorted : ClD K (rSortedV K) rSortedD := by
  intro vs ds H μ Q Qd rs rm q fin
  obtain ⟨x, d, rfl, rfl, r, hnt, q⟩ := as1_of rs q
  rcases q with ⟨ns, e, q⟩ | ⟨xs, e, h64, q⟩ | ⟨a, kvs, ks, rfl, em, hk, h64, q⟩
  · obtain ⟨a, ws, rfl, rr, hs⟩ := seqD_of r rm e
    have ex := rr.ints
    subst ex
    rcases hs with ⟨hs, _⟩ | ⟨_, z⟩
    · exact .inl ⟨a, ns, rfl, hs, fun ns' p h1 h2 hp => Fin.newL fin rm hp (reps_ints ns') (q ns' p h1 h2 (rm.free hp))⟩
    · exact absurd z (hnt _)
  · obtain ⟨a, ws, rfl, rr, hs⟩ := seqD_of r rm e
    have ex := rr.strs
    subst ex
    rcases hs with ⟨hs, _⟩ | ⟨_, z⟩
    · exact .inr (.inl ⟨a, xs, rfl, hs, h64, fun ns' p h1 h2 hp => Fin.newL fin rm hp (reps_strs ns') (q ns' p h1 h2 (rm.free hp))⟩)
    · exact absurd z (hnt _)
  · cases r
    obtain ⟨vs, e1, r1⟩ := rm.dk em
    exact .inr (.inr ⟨a, vs, ks, rfl, .inl e1, (krep_keys r1).trans hk, h64, fun ns' p h1 h2 hp => Fin.newL fin rm hp (reps_ints ns') (q ns' p h1 h2 (rm.free hp))⟩)

/-! tuple, list, dict -/
def rToTupD : DCl := fun ds μ Q => as1 ds fun d => asSeq d μ fun es => Q (.tup es) μ
theorem cd_toTup : ClD K (fun xs H Q => ∃ p ys, xs = [V.ref p] ∧ ((SqL K H p ys ∧ ∀ l, H l = none → Q (.ref l) (upd H l (.tup ys))) ∨ (SqT K H p ys ∧ Q (.ref p) H))) rToTupD := by
  intro vs ds H μ Q Qd rs rm q fin
  obtain ⟨x, d, rfl, rfl, r, q⟩ := as1_of rs q
  obtain ⟨a, xs, es, rfl, rr, hs, q⟩ := asSeq_of r rm q
  rcases hs with ⟨hs, _⟩ | ⟨hs, z⟩
  · exact ⟨a, xs, rfl, .inl ⟨hs, fun l hl => Fin.newT fin rm hl rr q⟩⟩
  · exact ⟨a, xs, rfl, .inr ⟨hs, Fin.now fin rm (.tup hs rr) q⟩⟩
def rToLstD : DCl := fun ds μ Q => as1 ds fun d => asSeq d μ fun es => ∀ p, μ p = none → Q (.obj p) (put μ p (.lst es))
theorem cd_toLst : ClD K (fun xs H Q => ∃ p ys, xs = [V.ref p] ∧ (SqL K H p ys ∨ SqT K H p ys) ∧ ∀ l, H l = none → Q (.ref l) (upd H l (.lst ys))) rToLstD := by
  intro vs ds H μ Q Qd rs rm q fin
  obtain ⟨x, d, rfl, rfl, r, q⟩ := as1_of rs q
  obtain ⟨a, xs, es, rfl, rr, hs, q⟩ := asSeq_of r rm q
  exact ⟨a, xs, rfl, hs.elim (fun z => .inl z.1) (fun z => .inr z.1), fun l hl => Fin.newL fin rm hl rr (q l (rm.free hl))⟩
def kD : Key → D
  | .inl i => .int i
  | .inr x => .str x
def mergeD (kvs more : List (Key × D)) : List (Key × D) := more.foldl (fun acc kv => putD acc kv.1 kv.2) kvs
theorem kD_rep {H : Hp} {k : Key} {v : V} (r : Rep K H v (kD k)) : v = kV k := by
  cases k <;> (cases r; rfl)
theorem krep_merge {H : Hp} : ∀ {ms : List (Key × V)} {mds : List (Key × D)} {ks : List (Key × V)} {kvs : List (Key × D)}, KRep K H ms mds → KRep K H ks kvs → KRep K H (mergeK ks ms) (mergeD kvs mds)
  | _, _, _, _, .nil, r => r
  | p :: ms, q :: mds, ks, kvs, .cons h t, r => by
    show KRep K H (mergeK (putK ks p.1 p.2) ms) (mergeD (putD kvs q.1 q.2) mds)
    rw [h.1]
    exact krep_merge t (krep_put r q.1 h.2)
/-- dict([(k, v), ..]) -/
def rToDictD : DCl := fun ds μ Q => as1 ds fun d => (∀ es, d ≠ .tup es) ∧ ∃ kvs : List (Key × D), seqD d μ = some (kvs.map fun kv => .tup [kD kv.1, kv.2]) ∧ ∀ p, μ p = none → Q (.obj p) (put μ p (.dK (mergeD [] kvs)))
theorem pairs_rep {H : Hp} : ∀ {kvs : List (Key × D)} {xs : List V}, Reps K H xs (kvs.map fun kv => D.tup [kD kv.1, kv.2]) → ∃ (ps : List Addr) (ks : List (Key × V)), xs = ps.map V.ref ∧ Paired (fun p kv => SqT K H p [kV kv.1, kv.2]) ps ks ∧ KRep K H ks kvs
  | [], _, .nil => ⟨[], [], rfl, .nil, .nil⟩
  | kv :: kvs, _, .cons (.tup (a := a) h r) t => by
    obtain ⟨ps, ks, e, p1, p2⟩ := pairs_rep t
    cases r with
    | cons r1 r2 =>
      cases r2 with
      | cons r2 r3 =>
        cases r3
        have ek := kD_rep r1
        subst ek
        exact ⟨a :: ps, (kv.1, _) :: ks, by rw [e]; rfl, .cons h p1, .cons ⟨rfl, r2⟩ p2⟩
theorem cd_toDict : ClD K (fun xs H Q => ∃ (a : Addr) (ps : List Addr) (kvs : List (Key × V)), xs = [V.ref a] ∧ SqL K H a (ps.map V.ref) ∧ Paired (fun p kv => SqT K H p [kV kv.1, kv.2]) ps kvs ∧
    ∀ p, H p = none → Q (.ref p) (upd H p (.dK (mergeK [] kvs)))) rToDictD := by
  intro vs ds H μ Q Qd rs rm q fin
  obtain ⟨x, d, rfl, rfl, r, hnt, kvs, e, q⟩ := as1_of rs q
  obtain ⟨a, ws, rfl, rr, hs⟩ := seqD_of r rm e
  obtain ⟨ps, ks, rfl, p1, p2⟩ := pairs_rep rr
  rcases hs with ⟨hs, _⟩ | ⟨_, z⟩
  · exact ⟨a, ps, ks, rfl, hs, p1, fun p hp => Fin.newD fin rm hp (krep_merge p2 .nil) (q p (rm.free hp))⟩
  · exact absurd z (hnt _)

/-! isinstance -/
def tyD (d : D) (μ : Mu) : Option String := match d with
  | .non => some "NoneType"
  | .bl _ => some "bool"
  | .int _ => some "int"
  | .str _ => some "str"
  | .tup _ => some "tuple"
  | .rol _ => none
  | .obj a => (match μ a with | some (.lst _) => some "list" | some _ => some "dict" | none => none)
  | .ty _ => none
def isTab : List (String × String × Bool) := ["NoneType", "bool", "int", "str", "tuple", "list", "dict"].flatMap fun a => ["bool", "int", "str", "tuple", "list", "dict"].map fun b => (a, b, a == b || (a == "bool" && b == "int"))
theorem isTab_ok : ∀ e ∈ isTab, kitB e.1 e.2.1 = some e.2.2 := by decide +kernel
def isT (a b : String) : Option Bool := (isTab.find? fun e => e.1 == a && e.2.1 == b).map (·.2.2)
theorem isT_ok {a b : String} {r : Bool} (h : isT a b = some r) : kitB a b = some r := by
  unfold isT at h
  cases e : isTab.find? fun e => e.1 == a && e.2.1 == b with
  | none => rw [e] at h; cases h
  | some z =>
    rw [e] at h
    have h : z.2.2 = r := Option.some.inj h
    have h1 := List.find?_some e
    simp only [Bool.and_eq_true, beq_iff_eq] at h1
    have h2 := isTab_ok z (List.mem_of_find?_eq_some e)
    rw [h1.1, h1.2, h] at h2
    exact h2
theorem tyD_ok {H : Hp} {μ : Mu} {x : V} {d : D} {n : String} (r : Rep K H x d) (rm : Rel K H μ) (e : tyD d μ = some n) : TyX K H x (.type n) := by
  cases r with
  | non => cases e; exact .base .non
  | bl b => cases e; exact .base (.bl b)
  | int i => cases e; exact .base (.int i)
  | str z => cases e; exact .base (.str z)
  | tup h r =>
    cases e
    rcases h with (h | ⟨o, h⟩) | ⟨o, its, m, h, hc, _⟩
    · exact .base (.tup h)
    · exact .fTuple h
    · exact .kTuple h hc
  | obj a =>
    have e : (match μ a with | some (.lst _) => some "list" | some _ => some "dict" | none => none) = some n := e
    split at e
    · rename_i ds em
      cases e
      obtain ⟨xs, e1, _⟩ := rm.lst em
      exact .base (.lst e1)
    · rename_i m hm em
      cases e
      have q := rm a _ em
      cases m with
      | lst ds => exact (hm ds rfl).elim
      | dK kvs => obtain ⟨ks, e1, _⟩ := q; exact .base (.dK e1)
      | dT kvs => obtain ⟨ks, e1, _⟩ := q; exact .base (.dT e1)
    · cases e
  | _ => cases e
def rIsiD : DCl := fun ds μ Q => match ds with
  | [d, .ty T] => (match tyD d μ with | some n => (match isT n T with | some b => Q (.bl b) μ | none => False) | none => False)
  | _ => False
theorem cd_isi : ClD K (rIsi K) rIsiD := by
  intro vs ds H μ Q Qd rs rm q fin
  unfold rIsiD at q
  split at q
  · rename_i d T
    split at q
    · rename_i n en
      split at q
      · rename_i b eb
        cases rs with
        | cons r1 t =>
          cases t with
          | cons r2 t2 =>
            cases t2
            cases r2
            exact ⟨_, .ty T, .type n, .type T, b, rfl, .ty T, tyD_ok r1 rm en, kit_ty (isT_ok eb), Fin.now fin rm (.bl b) q⟩
      · exact q.elim
    · exact q.elim
  · exact q.elim

/-! methods -/
def asL (d : D) (μ : Mu) (P : Addr → List D → Prop) : Prop := match d with
  | .obj a => (match μ a with | some (.lst ds) => P a ds | _ => False)
  | _ => False
theorem asL_of {H : Hp} {μ : Mu} {x : V} {d : D} {P : Addr → List D → Prop} (r : Rep K H x d) (rm : Rel K H μ) (h : asL d μ P) : ∃ a xs ds, x = .ref a ∧ d = .obj a ∧ μ a = some (.lst ds) ∧ H a = some (.lst xs) ∧ Reps K H xs ds ∧ P a ds := by
  cases r with
  | obj a =>
    have h : (match μ a with | some (.lst ds) => P a ds | _ => False) := h
    split at h
    · rename_i ds em
      obtain ⟨xs, e1, r1⟩ := rm.lst em
      exact ⟨a, xs, ds, rfl, rfl, em, e1, r1, h⟩
    · exact h.elim
  | _ => exact (show False from h).elim
def rAppD : DMt := fun x ds μ Q => as1 ds fun y => asL x μ fun a xs => xs.length < sizeLine ∧ Q .non (put μ a (.lst (xs ++ [y])))
theorem md_app : MtD K rAppend rAppD := by
  intro x dx vs ds H μ Q Qd rx rs rm q fin
  obtain ⟨y, d, rfl, rfl, ry, q⟩ := as1_of rs q
  obtain ⟨a, xs, es, rfl, rfl, em, e1, r1, hl, q⟩ := asL_of rx rm q
  exact ⟨a, xs, y, rfl, rfl, e1, by rw [r1.length]; exact hl, fin _ _ _ _ (Stay.put e1 True.intro) (rm.wrL e1 (r1.append (.cons ry .nil))) .non q⟩
/-- pop(), pop(i) -/
def rPop0D : DMt := fun x ds μ Q => match ds with
  | [] => asL x μ fun a xs => (match xs[xs.length - 1]? with | some y => Q y (put μ a (.lst xs.dropLast)) | none => False)
  | _ => False
theorem md_pop0 : MtD K rPop rPop0D := by
  intro x dx vs ds H μ Q Qd rx rs rm q fin
  unfold rPop0D at q
  split at q
  · cases rs
    obtain ⟨a, xs, es, rfl, rfl, em, e1, r1, q⟩ := asL_of rx rm q
    split at q
    · rename_i y ey
      obtain ⟨v, e2, r2⟩ := r1.get ey
      have st := Stay.put (o := .lst xs.dropLast) e1 True.intro
      exact ⟨a, xs, v, rfl, rfl, e1, by rw [r1.length]; exact e2, fin _ _ _ _ st (rm.wrL e1 r1.dropLast) (r2.stay st) q⟩
    · exact q.elim
  · exact q.elim
def rPopID : DMt := fun x ds μ Q => as1 ds fun d => asI d fun i => -(2 ^ 63) ≤ i ∧ i < 2 ^ 63 ∧ asL x μ fun a xs => (match ixN xs.length i with
  | some k => (match xs[k]? with | some y => Q y (put μ a (.lst (xs.eraseIdx k))) | none => False)
  | none => False)
theorem md_popI : MtD K rPopAt rPopID := by
  intro x dx vs ds H μ Q Qd rx rs rm q fin
  obtain ⟨y, d, rfl, rfl, ry, q⟩ := as1_of rs q
  obtain ⟨i, rfl, rfl, h1, h2, q⟩ := asI_of ry q
  obtain ⟨a, xs, es, rfl, rfl, em, e1, r1, q⟩ := asL_of rx rm q
  split at q
  · rename_i k ek
    split at q
    · rename_i z ez
      obtain ⟨v, e2, r2⟩ := r1.get ez
      have st := Stay.put (o := .lst (xs.eraseIdx k)) e1 True.intro
      exact ⟨a, xs, i, k, v, rfl, rfl, e1, h1, h2, by rw [r1.length]; exact (ixN_seq ek).1, e2, fin _ _ _ _ st (rm.wrL e1 (r1.erase k)) (r2.stay st) q⟩
    · exact q.elim
  · exact q.elim
/-- index of an int in a list of ints: the first place -/
def rIndexID : DMt := fun x ds μ Q => as1 ds fun d => asI d fun i => asL x μ fun a xs => ∃ (ns : List Int) (j : Nat), xs = ns.map D.int ∧ ns[j]? = some i ∧ (∀ m, m < j → ns[m]? ≠ some i) ∧ Q (.int (j : Nat)) μ
theorem md_indexI : MtD K (rIndex K) rIndexID := by
  intro x dx vs ds H μ Q Qd rx rs rm q fin
  obtain ⟨y, d, rfl, rfl, ry, q⟩ := as1_of rs q
  obtain ⟨i, rfl, rfl, q⟩ := asI_of ry q
  obtain ⟨a, xs, es, rfl, rfl, em, e1, r1, ns, j, rfl, hj, hm, q⟩ := asL_of rx rm q
  have ex := r1.ints
  subst ex
  refine ⟨a, ns.map V.int, .int i, j, .int i, rfl, rfl, SqL.of e1, rfl, ?_, by rw [List.getElem?_map, hj]; rfl, by simp [eqV], fun m z hlt hz => ?_, Fin.now fin rm (.int _) q⟩
  · rw [List.all_eq_true]
    intro v hv
    obtain ⟨n, _, rfl⟩ := List.mem_map.mp hv
    rfl
  · rw [List.getElem?_map] at hz
    cases e : ns[m]? with
    | none => rw [e] at hz; cases hz
    | some n =>
      rw [e] at hz
      cases hz
      have : n ≠ i := fun z => hm m hlt (by rw [e, z])
      simp [eqV, this]

/-! what is walked -/
theorem imp_I {tg it : Expr} {t t' : TI} (h : PI X tg it t) (i : ∀ σ H R, t' σ H R → t σ H R) : PI X tg it t' := ⟨fun pins s σ H R I q => h.run pins s σ H R I (i _ _ _ q)⟩
/-- a list or a tuple, whichever comes -/
def iSq (K : PySem.W.Frag) (tl : TE) : TI := fun σ H R => tl σ H fun x H1 => ∃ a, x = .ref a ∧ ((∃ xs, SqL K H1 a xs) ∧ R (Itl K a) H1 ∨ (∃ xs, SqT K H1 a xs) ∧ R (Itt K a) H1)
theorem pi_sq {tg l : Expr} {tl : TE} (hl : PE X l tl) : PI X tg l (iSq X.K tl) := by
  refine ⟨fun pins s σ H R I h => ?_⟩
  refine thn (hl.run pins s σ H _ I h) fun v s1 ⟨x, H1, I1, r1, q1⟩ => ?_
  obtain ⟨a, rfl, q⟩ := q1
  cases r1
  have hb : ∀ b ∈ [s1.heap.objs.size], FpOk X pins H1 b := fun b hb => by
    have e : b = s1.heap.objs.size := by simpa using hb
    subst e
    exact I1.fpOk (Nat.le_refl _) (I1.hok.fresh (Nat.le_refl _))
  rcases q with ⟨⟨xs, hq⟩, q⟩ | ⟨⟨xs, hq⟩, q⟩
  · obtain ⟨its, rv, p, hz⟩ := I1.list hq
    exact wpAny_pyIter_list p.isList ⟨s1.heap.objs.size, [s1.heap.objs.size], _, _, H1, rfl, I1.kept (t' := s1.toks) fun b o e => Heap.get?_push_of_some _ e, turn_list a _, ⟨_, Heap.get?_push_size _ rfl, rfl, rfl⟩, hb, q⟩
  · obtain ⟨its, rv, p, hz⟩ := I1.tuple hq
    exact wpAny_pyIter_tuple (show s1.heap.IsTuple a its.toArray from p) ⟨s1.heap.objs.size, [s1.heap.objs.size], _, _, H1, rfl, I1.kept (t' := s1.toks) fun b o e => Heap.get?_push_of_some _ e, turn_tuple a _, ⟨_, Heap.get?_push_size _ rfl, rfl, rfl⟩, hb, q⟩
theorem sql_eq {H : Hp} {μ : Mu} {a : Addr} {xs : List V} {ds : List D} : True := True.intro
def diSeq (te : DE) : DI := fun s μ R => te s μ fun d μ1 => match d with
  | .tup ds => R ds (fun _ => True) μ1
  | .rol ds => R ds (fun _ => True) μ1
  | .obj a => (match μ1 a with
    | some (.lst ds) => R ds (fun μ' => μ' a = some (.lst ds)) μ1
    | _ => False)
  | _ => False
theorem dit_tup {H : Hp} {a : Addr} {xs : List V} {ds : List D} (h : SqT K H a xs) (r : Reps K H xs ds) : DIt K H (Itt K a) ds fun _ => True := by
  intro i H1 μ st rm _
  have h1 := st.sqT h
  refine ⟨fun hl => ⟨xs, h1, by rw [r.length]; exact hl⟩, fun d hd => ?_⟩
  obtain ⟨v, e, rv⟩ := r.get hd
  refine ⟨⟨xs, v, h1, e⟩, fun x H' hy => ?_⟩
  obtain ⟨rfl, f⟩ := hy
  have : x = v := Option.some.inj ((f xs h1).symm.trans e)
  subst this
  exact ⟨Stay.refl _, rm, rv.stay st⟩
theorem dit_rol {H : Hp} {a : Addr} {xs : List V} {ds : List D} (h : RoL K H a xs) (r : Reps K H xs ds) : DIt K H (Itl K a) ds fun _ => True := by
  intro i H1 μ st rm _
  have h1 := h H1 st
  refine ⟨fun hl => ⟨xs, h1, by rw [r.length]; exact hl⟩, fun d hd => ?_⟩
  obtain ⟨v, e, rv⟩ := r.get hd
  refine ⟨⟨xs, v, h1, e⟩, fun x H' hy => ?_⟩
  obtain ⟨rfl, f⟩ := hy
  have : x = v := Option.some.inj ((f xs h1).symm.trans e)
  subst this
  exact ⟨Stay.refl _, rm, rv.stay st⟩
theorem dit_obj {H : Hp} {a : Addr} {ds : List D} : DIt K H (Itl K a) ds fun μ' => μ' a = some (.lst ds) := by
  intro i H1 μ st rm hm
  obtain ⟨xs, e1, r1⟩ := rm.lst hm
  have h1 : SqL K H1 a xs := SqL.of e1
  refine ⟨fun hl => ⟨xs, h1, by rw [r1.length]; exact hl⟩, fun d hd => ?_⟩
  obtain ⟨v, e, rv⟩ := r1.get hd
  refine ⟨⟨xs, v, h1, e⟩, fun x H' hy => ?_⟩
  obtain ⟨rfl, f⟩ := hy
  have : x = v := Option.some.inj ((f xs h1).symm.trans e)
  subst this
  exact ⟨Stay.refl _, rm, rv⟩
theorem di_seq {tg e : Expr} {te : DE} (he : PE X e (lE X.K te)) : PI X tg e (lI X.K (diSeq te)) := imp_I (pi_sq he) fun σ H R ⟨s, μ, Rd, rs, rm, t, fin⟩ => by
  refine ⟨s, μ, _, rs, rm, t, fun v H1 d μ1 st1 rm1 rp q => ?_⟩
  cases rp with
  | tup h r => exact ⟨_, rfl, .inr ⟨⟨_, h⟩, fin _ _ _ _ _ st1 rm1 (dit_tup h r) q⟩⟩
  | rol h r => exact ⟨_, rfl, .inl ⟨⟨_, h _ (Stay.refl _)⟩, fin _ _ _ _ _ st1 rm1 (dit_rol h r) q⟩⟩
  | obj a =>
    have q : (match μ1 a with
      | some (.lst ds) => Rd ds (fun μ' => μ' a = some (.lst ds)) μ1
      | _ => False) := q
    split at q
    · rename_i ds em
      obtain ⟨xs, e1, r1⟩ := rm1.lst em
      exact ⟨a, rfl, .inl ⟨⟨xs, SqL.of e1⟩, fin _ _ _ _ _ st1 rm1 dit_obj q⟩⟩
    · exact q.elim
  | _ => exact (show False from q).elim
/-- range -/
def rngD (lo : Int) (n : Nat) : List D := (List.range n).map fun (i : Nat) => D.int (lo + (i : Int))
theorem rngD_len (lo : Int) (n : Nat) : (rngD lo n).length = n := by simp [rngD]
theorem rngD_get {lo : Int} {n i : Nat} {d : D} (h : (rngD lo n)[i]? = some d) : i < n ∧ d = .int (lo + (i : Int)) := by
  have hl : i < n := by
    have := (List.getElem?_eq_some_iff.mp h).1
    rw [rngD_len] at this; exact this
  refine ⟨hl, ?_⟩
  simp [rngD, List.getElem?_map, List.getElem?_range hl] at h
  exact h.symm
theorem dit_rng {H : Hp} {lo : Int} {n : Nat} : DIt K H (Itr lo n) (rngD lo n) fun _ => True := by
  intro i H1 μ st rm _
  refine ⟨fun hl => by rw [rngD_len] at hl; exact hl, fun d hd => ?_⟩
  obtain ⟨hl, rfl⟩ := rngD_get hd
  refine ⟨hl, fun x H' hy => ?_⟩
  obtain ⟨rfl, rfl⟩ := hy
  exact ⟨Stay.refl _, rm, .int _⟩
def Sm (i : Int) : Prop := -(2 ^ 62) ≤ i ∧ i < 2 ^ 62
def diR1 (ta : DA) : DI := fun s μ R => ta s μ fun ds μ1 => as1 ds fun d => asI d fun j => Sm j ∧ R (rngD 0 j.toNat) (fun _ => True) μ1
def diR2 (ta : DA) : DI := fun s μ R => ta s μ fun ds μ1 => as2 ds fun d e => asI d fun i => asI e fun j => Sm i ∧ Sm j ∧ R (rngD i (j - i).toNat) (fun _ => True) μ1
theorem di_r1 {tg a : Expr} {ta : DA} {p pos : Pos} (hg : Gl X "range") (hm : X.mg "range" = none) (ha : PA X [a] (lA X.K ta)) (hs : starEach [a] X.env = [(false, eval a X.env)] := by rfl) : PI X tg (.Call (.Name "range" p) [a] [] pos) (lI X.K (diR1 ta)) :=
  imp_I (pi_range1 hg hm ha hs) fun σ H R ⟨s, μ, Rd, rs, rm, t, fin⟩ => by
    refine ⟨s, μ, _, rs, rm, t, fun vs H1 ds μ1 st1 rm1 rp q => ?_⟩
    obtain ⟨x, d, rfl, rfl, r, q⟩ := as1_of rp q
    obtain ⟨j, rfl, rfl, h, q⟩ := asI_of r q
    exact ⟨j, rfl, h.1, h.2, fin _ _ _ _ _ st1 rm1 dit_rng q⟩
theorem di_r2 {tg a b : Expr} {ta : DA} {p pos : Pos} (hg : Gl X "range") (hm : X.mg "range" = none) (ha : PA X [a, b] (lA X.K ta)) (hs : starEach [a, b] X.env = [(false, eval a X.env), (false, eval b X.env)] := by rfl) (hs2 : starEach [b] X.env = [(false, eval b X.env)] := by rfl) :
    PI X tg (.Call (.Name "range" p) [a, b] [] pos) (lI X.K (diR2 ta)) :=
  imp_I (pi_range2 hg hm ha hs hs2) fun σ H R ⟨s, μ, Rd, rs, rm, t, fin⟩ => by
    refine ⟨s, μ, _, rs, rm, t, fun vs H1 ds μ1 st1 rm1 rp q => ?_⟩
    obtain ⟨x, y, d, e, rfl, rfl, r1, r2, q⟩ := as2_of rp q
    obtain ⟨i, rfl, rfl, q⟩ := asI_of r1 q
    obtain ⟨j, rfl, rfl, h1, h2, q⟩ := asI_of r2 q
    exact ⟨i, j, rfl, ⟨h1.1, h1.2, h2.1, h2.2⟩, fin _ _ _ _ _ st1 rm1 dit_rng q⟩
/-- zip of two tuples -/
def zipD : List D → List D → List D
  | x :: xs, y :: ys => .tup [x, y] :: zipD xs ys
  | _, _ => []
theorem zipD_len : ∀ {xs ys : List D}, xs.length = ys.length → (zipD xs ys).length = xs.length
  | [], [], _ => rfl
  | _ :: xs, _ :: ys, h => by
    show (zipD xs ys).length + 1 = xs.length + 1
    rw [zipD_len (Nat.succ.inj h)]
  | [], _ :: _, h => nomatch h
  | _ :: _, [], h => nomatch h
theorem zipD_get : ∀ {xs ys : List D} {i : Nat} {d : D}, xs.length = ys.length → (zipD xs ys)[i]? = some d → ∃ x y, xs[i]? = some x ∧ ys[i]? = some y ∧ d = .tup [x, y]
  | [], [], _, _, _, h => by simp [zipD] at h
  | x :: xs, y :: ys, 0, d, _, h => by
    have : D.tup [x, y] = d := Option.some.inj (show some _ = some d from h)
    exact ⟨x, y, rfl, rfl, this.symm⟩
  | x :: xs, y :: ys, i + 1, d, hl, h => by
    obtain ⟨a, b, p1, p2, p3⟩ := zipD_get (Nat.succ.inj hl) (show (zipD xs ys)[i]? = some d from h)
    exact ⟨a, b, p1, p2, p3⟩
  | [], _ :: _, _, _, h, _ => nomatch h
  | _ :: _, [], _, _, h, _ => nomatch h
theorem dit_zipT {H : Hp} {a b : Addr} {xs ys : List V} {ds es : List D} (h : SqT K H a xs) (h' : SqT K H b ys) (r : Reps K H xs ds) (r' : Reps K H ys es) (hl : ds.length = es.length) : DIt K H (RZ.ItzT K a b) (zipD ds es) fun _ => True := by
  intro i H1 μ st rm _
  have h1 := st.sqT h
  have h2 := st.sqT h'
  refine ⟨fun hle => ⟨xs, ys, h1, h2, .inl (by rw [r.length, ← zipD_len hl]; exact hle)⟩, fun d hd => ?_⟩
  obtain ⟨d1, d2, e1, e2, rfl⟩ := zipD_get hl hd
  obtain ⟨v1, f1, q1⟩ := r.get e1
  obtain ⟨v2, f2, q2⟩ := r'.get e2
  refine ⟨⟨xs, ys, v1, v2, h1, h2, f1, f2⟩, fun x H' hy => ?_⟩
  obtain ⟨T, x1, x2, rfl, nT, rfl, g1, g2⟩ := hy
  have e1 : x1 = v1 := Option.some.inj ((g1 xs h1).symm.trans f1)
  have e2 : x2 = v2 := Option.some.inj ((g2 ys h2).symm.trans f2)
  subst e1 e2
  have st2 := Stay.new (o := .tup [x1, x2]) nT
  exact ⟨st2, rm.newT nT, .tup (SqT.of upd_same) (.cons (q1.stay (st.trans st2)) (.cons (q2.stay (st.trans st2)) .nil))⟩
def diZip (ta : DA) : DI := fun s μ R => ta s μ fun ds μ1 => as2 ds fun d e => asT d fun xs => asT e fun ys => xs.length = ys.length ∧ R (zipD xs ys) (fun _ => True) μ1
theorem di_zip {e e2 : Expr} {ta : DA} {p pos tpos : Pos} {elts : List Expr} {kk : Nat} (hg : Gl X "zip") (hm : X.mg "zip" = none) (ha : PA X [e, e2] (lA X.K ta))
    (hs : starEach [e, e2] X.env = (false, eval e X.env) :: starEach [e2] X.env := by rfl) (hpl : (backTo pos (starEach [e2] X.env)).any (·.1) = false := by rfl) : PI X (.Tuple elts kk tpos) (.Call (.Name "zip" p) [e, e2] [] pos) (lI X.K (diZip ta)) :=
  imp_I (RZ.pi_zipA hg hm ha hs hpl) fun σ H R ⟨s, μ, Rd, rs, rm, t, fin⟩ => by
    refine ⟨s, μ, _, rs, rm, t, fun vs H1 ds μ1 st1 rm1 rp q => ?_⟩
    obtain ⟨x, y, d, e, rfl, rfl, r1, r2, q⟩ := as2_of rp q
    obtain ⟨a, xs, ds, rfl, rfl, h1, r1, q⟩ := asT_of r1 q
    obtain ⟨b, ys, es, rfl, rfl, h2, r2, hl, q⟩ := asT_of r2 q
    exact ⟨a, b, xs, ys, rfl, .inr ⟨h1, h2, fin _ _ _ _ _ st1 rm1 (dit_zipT h1 h2 r1 r2 hl) q⟩⟩
end DD
end
section
open PySem PySem.Spec PyProof.Rows L2
set_option Elab.async false
set_option linter.all false
set_option maxRecDepth 100000
namespace DD
/-! max(o.values()): a dict of ints -/
def tMaxVals (td : TE) : TE := fun σ H Q => td σ H fun x H1 => ∃ a kvs zs, x = V.ref a ∧ H1 a = some (.dK kvs) ∧ kvs.map (·.2) = zs.map V.int ∧ zs ≠ [] ∧ ∀ m, m ∈ zs → (∀ j ∈ zs, j ≤ m) → Q (.int m) H1
section
variable {X : Cx} {o : Expr} {p pos apos mpos : Pos} {td : TE}
theorem pe_maxVals (hc : X.calm = true) (hg : Gl X "max") (hm : X.mg "max" = none) (hd : PE X o td) (hbase : attributeBase o "values" X.env (eval o X.env) = eval o X.env := by rfl) (hline : (apos.endLine == mpos.line) = true := by rfl)
    (hse : starEach [Expr.Call (.Attribute o "values" apos) [] [] mpos] X.env = [(false, eval (Expr.Call (.Attribute o "values" apos) [] [] mpos) X.env)] := by rfl) : PE X (.Call (.Name "max" p) [.Call (.Attribute o "values" apos) [] [] mpos] [] pos) (tMaxVals td) := by
  refine ⟨fun pins s σ H Q I hw => ?_⟩
  refine wpAny_Call_Name_kw (ld_blt I hg hm (u := .builtin "max") (by first | rfl | decide +kernel) ?_ (by first | decide +kernel | decide) (by first | decide +kernel | decide))
  rw [hse]
  refine PySem.callWith_builtin1 (wpAny_Call_method0_late hbase hline (thn (hd.run pins s σ H _ I hw) fun v z ⟨x, G, J, rx, a, kvs, zs, ea, ha, hv, hne, q⟩ => ?_))
  subst ea
  obtain rfl : v = Value.ref a := rx
  obtain ⟨_, hy, vs, rel, dof⟩ := dk_of J.hok ha
  obtain ⟨ep, dat⟩ := dof.dictAt
  have dat0 := dat
  obtain ⟨ob, es, ho, xd, hdat, hko, hpr, hnd⟩ := dat0
  refine ⟨"dict", "dict.values", F.plainAttrs_dict, F.slot_dict_values, F.type_dict_values, ⟨ob, ho, xd.1⟩, fun b e => ?_, Calls.callWith_builtin rfl (PySem.evalArgs_none ?_)⟩
  · cases e; exact ⟨ob, ho, xd.2.1⟩
  refine call_meetsIn F.slot_dict_values ⟨ob, ho, xd.1⟩ F.entry_dict_values (F.args_dict_values_1 _) (meets_dict_values (mixKind X.prog X.w) a hy) ⟨⟨vs, dof⟩, ?_⟩
  have kp : ∀ b u, z.heap.get? b = some u → (z.heap.push { cls := .type "dict_values", data := .fields #[.ref a] }).get? b = some u := fun b u e => Heap.get?_push_of_some _ e
  have datN : (z.heap.push { cls := .type "dict_values", data := .fields #[.ref a] }).DictAt (mixKind X.prog X.w) a vs ep := dat.keep kp
  have hlv : vs.length = zs.length := by
    have q1 := congrArg List.length hv
    rw [List.length_map, List.length_map] at q1
    exact (KV.length rel).symm.trans q1
  have hpos : 0 < vs.length := by
    rw [hlv]; exact List.length_pos_iff.mpr hne
  have hval : ∀ (i : Nat) (v : Value), (∃ k, vs[i]? = some (k, v)) → ∃ t, v = Value.int (zs.getD i 0) t := fun i v ⟨k, hk⟩ => by
    obtain ⟨y, h1, h2⟩ := KV.at' rel hk
    have q1 : (kvs.map (·.2))[i]? = some y := by
      rw [List.getElem?_map, h1]; rfl
    rw [hv, List.getElem?_map] at q1
    obtain ⟨j, hj, q2⟩ := Option.map_eq_some_iff.mp q1
    subst q2
    obtain ⟨t, q3⟩ := h2
    exact ⟨t, by rw [q3, List.getD_eq_getElem?_getD, hj]; rfl⟩
  refine call_max_walk (wpAny_pyIter_values (v := z.heap.objs.size) (d := a) ⟨_, Heap.get?_push_size _ rfl, rfl, rfl⟩ datN ?_)
  have hlt : a < z.heap.objs.size := Heap.lt_size ho
  have hsz : (z.heap.push { cls := .type "dict_values", data := .fields #[.ref a] }).objs.size = z.heap.objs.size + 1 := Heap.size_push _ _
  refine ⟨_, _, _, _, _, _, _, rfl, Walks.dictValues (knd := mixKind X.prog X.w) (A := X.A.in1) (J.ok.hd hc) (z.heap.push { cls := .type "dict_values", data := .fields #[.ref a] }).objs.size a (by rw [hsz]; exact Nat.ne_of_lt (Nat.lt_succ_of_lt hlt)) vs ep,
    ⟨⟨_, Heap.get?_push_size _ rfl, rfl, rfl⟩, datN.keep fun b u e => Heap.get?_push_of_some _ e⟩, fun b hb => ?_, hpos, CmpOf.ints_gt (fun i => zs.getD i 0) hval, fun v h' tk hP hk => ?_⟩
  · show b < ((z.heap.push _).push _).objs.size
    rw [Heap.size_push, Heap.size_push]
    rw [hsz] at hb
    rcases List.mem_cons.mp hb with e | hb
    · rw [e]; exact Nat.lt_succ_self _
    · have e : b = a := List.mem_singleton.mp hb
      rw [e]; exact Nat.lt_succ_of_lt (Nat.lt_succ_of_lt hlt)
  · obtain ⟨t, rfl⟩ := hval _ v hP
    obtain ⟨b1, b2⟩ := argBest_gt (fun i => zs.getD i 0) (vs.length - 1)
    refine ⟨.int _, G, J.kept (t' := tk) fun b u e => hk b u (fun hmem => ?_) (Heap.get?_push_of_some _ (kp b u e)), ⟨t, rfl⟩, q _ ?_ fun j hj => ?_⟩
    · have q1 : b = (z.heap.push { cls := .type "dict_values", data := .fields #[.ref a] }).objs.size := List.mem_singleton.mp hmem
      have q2 := Heap.lt_size e
      rw [q1, hsz] at q2
      exact absurd q2 (Nat.not_lt.mpr (Nat.le_succ _))
    · have hb : argBest (fun i j => decide (zs.getD i 0 > zs.getD j 0)) (vs.length - 1) < zs.length := by omega
      rw [List.getD_eq_getElem?_getD, List.getElem?_eq_getElem hb]
      exact List.getElem_mem hb
    · obtain ⟨i, hi, e⟩ := List.mem_iff_getElem.mp hj
      have q2 : zs.getD i 0 = j := by
        rw [List.getD_eq_getElem?_getD, List.getElem?_eq_getElem hi, ← e]; rfl
      rw [← q2]
      exact b2 i (by omega)
def dMaxVals (te : DE) : DE := fun s μ Q => te s μ fun d μ1 => match d with
  | .obj a => (match μ1 a with
    | some (.dK kvs) => ∃ zs : List Int, kvs.map (·.2) = zs.map D.int ∧ zs ≠ [] ∧ ∀ m, m ∈ zs → (∀ j ∈ zs, j ≤ m) → Q (.int m) μ1
    | _ => False)
  | _ => False
theorem d_maxVals {te : DE} (hc : X.calm = true) (hg : Gl X "max") (hm : X.mg "max" = none) (hd : PE X o (lE X.K te)) (hbase : attributeBase o "values" X.env (eval o X.env) = eval o X.env := by rfl) (hline : (apos.endLine == mpos.line) = true := by rfl)
    (hse : starEach [Expr.Call (.Attribute o "values" apos) [] [] mpos] X.env = [(false, eval (Expr.Call (.Attribute o "values" apos) [] [] mpos) X.env)] := by rfl) : PE X (.Call (.Name "max" p) [.Call (.Attribute o "values" apos) [] [] mpos] [] pos) (lE X.K (dMaxVals te)) :=
  imp_E (pe_maxVals hc hg hm hd hbase hline hse) fun σ H Q ⟨s, μ, Qd, rs, rm, t, fin⟩ => by
    refine ⟨s, μ, _, rs, rm, t, fun v1 H1 d1 μ1 st1 rm1 rp q => ?_⟩
    cases rp with
    | obj a =>
      have q : (match μ1 a with
        | some (.dK kvs) => ∃ zs : List Int, kvs.map (·.2) = zs.map D.int ∧ zs ≠ [] ∧ ∀ m, m ∈ zs → (∀ j ∈ zs, j ≤ m) → Qd (.int m) μ1
        | _ => False) := q
      split at q
      · rename_i kvs em
        obtain ⟨zs, e, hne, q⟩ := q
        obtain ⟨ks, e1, r1⟩ := rm1.dk em
        have r2 := krep_vals r1
        rw [e] at r2
        exact ⟨a, ks, zs, rfl, e1, r2.ints, hne, fun m h1 h2 => fin _ _ _ _ st1 rm1 (.int _) (q m h1 h2)⟩
      · exact q.elim
    | _ => exact (show False from q).elim
end
/-! {k: v for target in iter if ..} -/
section
variable {X : Cx} {pos : Pos}
def asK (d : D) (P : Key → Prop) : Prop := match keyD d with
  | some k => P k
  | none => False
theorem asK_of {K : PySem.W.Frag} {H : Hp} {x : V} {d : D} {P : Key → Prop} (r : Rep K H x d) (h : asK d P) : ∃ k, x = kV k ∧ keyD d = some k ∧ P k := by
  unfold asK at h
  split at h
  · rename_i k e
    exact ⟨k, keyD_ok r e, e, h⟩
  · exact h.elim
def dDc (w : DI) (tg : Tg) (tt : DT) (tk tv : DE) (vs : List Nat) : DE := fun s μ Q => w s μ fun ds stab μ1 => ∀ p, μ1 p = none → ∃ Inv : Nat → List (Key × D) → Mu → Prop, Inv 0 [] (put μ1 p (.dK [])) ∧ (∀ i acc μ, Inv i acc μ → μ p = some (.dK acc) ∧ stab μ) ∧
  (∀ i d acc μ, ds[i]? = some d → Inv i acc μ → dBind tg d (dwipe s vs) fun s2 => tt s2 μ fun b μ3 => if b = true then tk s2 μ3 fun y μ4 => tv s2 μ4 fun z μ5 => μ5 p = some (.dK acc) ∧ acc.length < sizeLine ∧ asK y fun k => Inv (i + 1) (putD acc k z) (put μ5 p (.dK (putD acc k z))) else Inv (i + 1) acc μ3) ∧
  ∀ acc μ, Inv ds.length acc μ → Q (.obj p) μ
theorem lift_dc {K : PySem.W.Frag} {w : DI} {tg : Tg} {tt : DT} {tk tv : DE} {vs : List Nat} (hin : tgIn tg vs) : ∀ σ H Q, lE K (dDc w tg tt tk tv vs) σ H Q → tDc (lI K w) (tgV K tg) (lT K tt) (lE K tk) (lE K tv) vs σ H Q := by
  intro σ H Q ⟨s, μ, Qd, rs, rm, t, fin⟩
  refine ⟨s, μ, _, rs, rm, t, fun J H1 ds stab μ1 st1 rm1 it q C hC => ?_⟩
  obtain ⟨W0, i0, hst, turn, hend⟩ := q C (rm1.free hC)
  have st1' : Stay H (upd H1 C (.dK [])) := st1.trans (Stay.new hC)
  refine ⟨fun i m H' => ∃ acc μ', Stay (upd H1 C (.dK [])) H' ∧ Rel K H' μ' ∧ W0 i acc μ' ∧ i + m = ds.length, ⟨ds.length, [], _, Stay.refl _, rm1.new (m := .dK []) hC (show MRep K _ C (.dK []) from ⟨[], upd_same, .nil⟩), i0, Nat.zero_add _⟩, ?_⟩
  rintro i m H2 ⟨acc, μ2, st2, rm2, iv, hm⟩
  obtain ⟨hD2, hs2⟩ := hst _ _ _ iv
  obtain ⟨a, b⟩ := it i H2 μ2 ((Stay.new hC).trans st2) rm2 hs2
  by_cases hl : i < ds.length
  · obtain ⟨go, y⟩ := b ds[i] (List.getElem?_eq_getElem hl)
    refine .inr ⟨go, fun H' => ∃ acc μ', Stay (upd H1 C (.dK [])) H' ∧ Rel K H' μ' ∧ W0 (i + 1) acc μ', fun H' ⟨acc, μ', p1, p2, p3⟩ => ⟨m - 1, by omega, acc, μ', p1, p2, p3, by omega⟩, fun x H3 hy => ?_⟩
    obtain ⟨st3, rm3, rp⟩ := y x H3 hy
    have st03 : Stay H H3 := (st1'.trans st2).trans st3
    refine tg_ok (ws := vs) (w0 := wipe σ vs) hin (wipe_wipe vs fun i h => h) rp ((rs.wipe vs).stay st03) (turn i _ acc μ2 (List.getElem?_eq_getElem hl) iv) fun σ4 s4 rs4 hw q4 => ⟨hw, ?_⟩
    refine ⟨s4, μ2, _, rs4, rm3, q4, fun bb H5 μ5 st5 rm5 q5 => ?_⟩
    cases bb with
    | true =>
      rw [if_pos rfl] at q5
      refine iteT ?_
      refine ⟨s4, μ5, _, rs4.stay st5, rm5, q5, fun v6 H6 d6 μ6 st6 rm6 rp6 q6 => ?_⟩
      refine ⟨s4, μ6, _, rs4.stay (st5.trans st6), rm6, q6, fun v7 H7 d7 μ7 st7 rm7 rp7 q7 => ?_⟩
      obtain ⟨e7, hz, q7⟩ := q7
      obtain ⟨k, ek, ed, iv7⟩ := asK_of rp6 q7
      obtain ⟨ks, ex, rx⟩ := rm7.dk e7
      have st27 : Stay (upd H1 C (.dK [])) H7 := (st2.trans st3).trans ((st5.trans st6).trans st7)
      exact ⟨ks, k, ek, ex, by rw [krep_len rx]; exact hz, putD acc k d7, _, st27.trans (Stay.put ex True.intro), rm7.wrD ex (krep_put rx k rp7), iv7⟩
    | false =>
      rw [if_neg Bool.false_ne_true] at q5
      refine iteF ?_
      exact ⟨acc, μ5, (st2.trans st3).trans st5, rm5, q5⟩
  · have e : i = ds.length := by omega
    subst e
    exact .inl ⟨a (Nat.le_refl _), fin _ _ _ _ (st1'.trans st2) rm2 (.obj C) (hend _ _ iv)⟩
theorem d_dc {kx vx tgE iter : Expr} {ifs : List Expr} {scope : Scope} {own : List (Str × Nat)} {w : DI} {tg : Tg} {tt : DT} {tk tv : DE} (vs : List Nat) (hc : X.calm = true) (hN : X.N.Nodup) (hi : PI X tgE iter (lI X.K w)) (ok : BlkOk X.N X.env.scope scope own)
    (hg : ∀ (s : Shared) (H : Hp) (C : Addr) (cl : List (Str × Addr)) (fp : List Addr), PG (X.blk s H scope (compEnvC scope cl C X.env) fp) tgE (tgV X.K tg)) (ht : ∀ (s : Shared) (H : Hp) (C : Addr) (cl : List (Str × Addr)) (fp : List Addr), PTs (X.blk s H scope (compEnvC scope cl C X.env) fp) ifs (lT X.K tt))
    (hk : ∀ (s : Shared) (H : Hp) (C : Addr) (cl : List (Str × Addr)) (fp : List Addr), PE (X.blk s H scope (compEnvC scope cl C X.env) fp) kx (lE X.K tk))
    (he : ∀ (s : Shared) (H : Hp) (C : Addr) (cl : List (Str × Addr)) (fp : List Addr), PE (X.blk s H scope (compEnvC scope cl C X.env) fp) vx (lE X.K tv)) (hvs : own.map (·.2) = vs := by rfl) (hin : tgIn tg vs := by simp [tgIn]) (hs : ∀ x, foldedSetIterable iter X.env x = pure x := by intro _; rfl) :
    PE X (.DictComp kx vx [⟨tgE, iter, ifs, 0⟩] scope pos) (lE X.K (dDc w tg tt tk tv vs)) := by
  subst hvs
  exact imp_E (pe_dc hc hN hi ok hg ht hk he hs) (lift_dc hin)
/-! a written dict -/
def dPairs : List (DE × DE) → DSt → Mu → (List (D × D) → Mu → Prop) → Prop
  | [], _, μ, Q => Q [] μ
  | (tk, tv) :: r, s, μ, Q => tk s μ fun k μ1 => tv s μ1 fun v μ2 => dPairs r s μ2 fun ps μ3 => Q ((k, v) :: ps) μ3
def keysD : List (D × D) → Option (List (Key × D))
  | [] => some []
  | (k, v) :: r => match keyD k, keysD r with
    | some k', some r' => some ((k', v) :: r')
    | _, _ => none
def dDisp (prs : List (DE × DE)) : DE := fun s μ Q => ∀ p, μ p = none → dPairs prs s (put μ p (.dK [])) fun ps μ2 => μ2 p = some (.dK []) ∧ (match keysD ps with
  | some kvs => kvs.length ≤ 15 ∧ Q (.obj p) (put μ2 p (.dK (mergeD [] kvs)))
  | none => False)
abbrev lPr (K : PySem.W.Frag) (p : DE × DE) : TE × TE := (lE K p.1, lE K p.2)
theorem pairs_lift {K : PySem.W.Frag} : ∀ {prs : List (DE × DE)} {σ : L2.St} {H : Hp} {s : DSt} {μ : Mu} {Qd : List (D × D) → Mu → Prop} {Q : List (V × V) → Hp → Prop}, RelS K H σ s → Rel K H μ → dPairs prs s μ Qd →
    (∀ vs ds H' μ', Stay H H' → Rel K H' μ' → Paired (fun p q => Rep K H' p.1 q.1 ∧ Rep K H' p.2 q.2) vs ds → Qd ds μ' → Q vs H') → tPairs (prs.map (lPr K)) σ H Q
  | [], σ, H, s, μ, Qd, Q, rs, rm, q, f => f [] [] H μ (Stay.refl H) rm .nil q
  | (tk, tv) :: r, σ, H, s, μ, Qd, Q, rs, rm, q, f => by
    refine ⟨s, μ, _, rs, rm, q, fun v1 H1 d1 μ1 st1 rm1 rp1 q1 => ?_⟩
    refine ⟨s, μ1, _, rs.stay st1, rm1, q1, fun v2 H2 d2 μ2 st2 rm2 rp2 q2 => ?_⟩
    refine pairs_lift (rs.stay (st1.trans st2)) rm2 q2 fun vs ds H3 μ3 st3 rm3 rp3 q3 => ?_
    exact f _ _ _ _ ((st1.trans st2).trans st3) rm3 (.cons ⟨rp1.stay (st2.trans st3), rp2.stay st3⟩ rp3) q3
theorem keysD_ok {K : PySem.W.Frag} {H : Hp} : ∀ {vs : List (V × V)} {ds : List (D × D)} {kvs : List (Key × D)}, Paired (fun p q => Rep K H p.1 q.1 ∧ Rep K H p.2 q.2) vs ds → keysD ds = some kvs → ∃ ks : List (Key × V), vs = ks.map (fun kv => (kV kv.1, kv.2)) ∧ KRep K H ks kvs
  | _, _, kvs, .nil, e => by
    cases e
    exact ⟨[], rfl, .nil⟩
  | p :: vs, q :: ds, kvs, .cons h t, e => by
    obtain ⟨q1, q2⟩ := q
    obtain ⟨p1, p2⟩ := p
    unfold keysD at e
    split at e
    · rename_i k' r' e1 e2
      cases e
      obtain ⟨ks, e3, rr⟩ := keysD_ok t e2
      have e4 := keyD_ok h.1 e1
      refine ⟨(k', p2) :: ks, ?_, .cons ⟨rfl, h.2⟩ rr⟩
      rw [List.map_cons, ← e3, ← e4]
    · cases e
theorem d_disp {keys : List (Option Expr)} {values : List Expr} {prs : List (DE × DE)} (h : PPs X pos keys values (prs.map (lPr X.K))) (hall : keys.all (·.isSome) = true) (hl : keys.length = values.length) (h0 : keys ≠ []) (h15 : keys.length ≤ 15) : PE X (.Dict keys values pos) (lE X.K (dDisp prs)) :=
  imp_E (pe_disp h hall hl h0 h15) fun σ H Q ⟨s, μ, Qd, rs, rm, t, fin⟩ => by
    intro p hp
    have st0 := Stay.new (o := .dK []) hp
    refine pairs_lift (rs.stay st0) (rm.new (m := .dK []) hp (show MRep X.K _ p (.dK []) from ⟨[], upd_same, .nil⟩)) (t p (rm.free hp)) fun vs ds H1 μ1 st1 rm1 rp1 q1 => ?_
    obtain ⟨em, q1⟩ := q1
    split at q1
    · rename_i kvs ek
      obtain ⟨ks, e1, r1⟩ := keysD_ok rp1 ek
      obtain ⟨xs, e2, r2⟩ := rm1.dk em
      cases r2
      refine ⟨e2, ks, e1, by rw [krep_len r1]; exact q1.1, ?_⟩
      have st2 := Stay.put (o := .dK (mergeK [] ks)) e2 True.intro
      exact fin _ _ _ _ ((st0.trans st1).trans st2) (rm1.wrD e2 (krep_merge r1 .nil)) (.obj p) q1.2
    · exact q1.elim
theorem d_pnil : PPs X pos [] [] (([] : List (DE × DE)).map (lPr X.K)) := pps_nil
theorem d_pcons {k v : Expr} {ks : List (Option Expr)} {vs : List Expr} {tk tv : DE} {prs : List (DE × DE)} (hk : PE X k (lE X.K tk)) (hv : PE X v (lE X.K tv)) (hr : PPs X pos ks vs (prs.map (lPr X.K))) : PPs X pos (some k :: ks) (v :: vs) (((tk, tv) :: prs).map (lPr X.K)) := pps_cons hk hv hr
/-- {} -/
def dNewD : DE := fun _ μ Q => ∀ p, μ p = none → Q (.obj p) (put μ p (.dK []))
theorem d_newD : PE X (.Dict [] [] pos) (lE X.K dNewD) := imp_E pe_dnewK fun σ H Q ⟨s, μ, Qd, rs, rm, t, fin⟩ => fun p hp => Fin.newD fin rm hp .nil (t p (rm.free hp))
end
/-! a, b, c = x, y, z -/
section
variable {X : Cx} {pos : Pos}
def dPar3 (i j l : Nat) (ta : DA) : DS := fun E s μ => ta s μ fun ds μ1 => match ds with
  | [a, b, c] => E.nx (List.set (List.set (List.set s i (some a)) j (some b)) l (some c)) μ1
  | _ => False
theorem ds_par3 {i j l : Nat} {x y z : Str} {a b c : Expr} {ta : DA} {px py pz pt : Pos} {kt k2 pt2} (hc : X.calm = true) (hN : X.N.Nodup) (hi : X.N[i]? = some x) (hj : X.N[j]? = some y) (hl : X.N[l]? = some z) (hij : i ≠ j) (hil : i ≠ l) (hjl : j ≠ l)
    (hx : X.env.scope.names.lookup x = some .local) (hy : X.env.scope.names.lookup y = some .local) (hz : X.env.scope.names.lookup z = some .local) (ha : PA X [a, b, c] (lA X.K ta))
    (hw : swappedStores [.Tuple [.Name x px, .Name y py, .Name z pz] kt pt] (.Tuple [a, b, c] k2 pt2) X.env = pure (some [x, y, z])) (hs : swapsWithSole [.Tuple [.Name x px, .Name y py, .Name z pz] kt pt] (.Tuple [a, b, c] k2 pt2) pos.line X.env = pure false := by rfl) :
    PS X (.Assign [.Tuple [.Name x px, .Name y py, .Name z pz] kt pt] (.Tuple [a, b, c] k2 pt2) pos) (lS X.K (dPar3 i j l ta)) :=
  imp_S (ps_par3 hc hN hi hj hl hij hil hjl hx hy hz ha hw hs) fun E σ H h => by
    obtain ⟨s, μ, Ed, rs, rm, q, f⟩ := lS_of h
    refine ⟨s, μ, _, rs, rm, q, fun vs H' ds μ' st rm' rp q' => ?_⟩
    cases rp with
    | nil => exact q'.elim
    | cons r1 t1 =>
      cases t1 with
      | nil => exact q'.elim
      | cons r2 t2 =>
        cases t2 with
        | nil => exact q'.elim
        | cons r3 t3 =>
          cases t3 with
          | nil => exact ⟨_, _, _, rfl, f.nx _ _ _ _ st ((((rs.stay st).set r1).set r2).set r3) rm' q'⟩
          | cons _ _ => exact q'.elim
end
end DD
end
section
open PySem PySem.Spec PyProof.Rows L2
set_option Elab.async false
set_option linter.all false
set_option maxRecDepth 100000
namespace DD
/-! how a reading is worked out -/
theorem at0 {α : Type} (a : α) (l : List α) : atI (a :: l) 0 = some a := by
  have := atI_nat (xs := a :: l) (j := 0) (v := a) rfl
  exact this
theorem at1 {α : Type} (a b : α) (l : List α) : atI (a :: b :: l) 1 = some b := by
  have := atI_nat (xs := a :: b :: l) (j := 1) (v := b) rfl
  exact this
theorem at2 {α : Type} (a b c : α) (l : List α) : atI (a :: b :: c :: l) 2 = some c := by
  have := atI_nat (xs := a :: b :: c :: l) (j := 2) (v := c) rfl
  exact this
theorem at3 {α : Type} (a b c d : α) (l : List α) : atI (a :: b :: c :: d :: l) 3 = some d := by
  have := atI_nat (xs := a :: b :: c :: d :: l) (j := 3) (v := d) rfl
  exact this
theorem ev_var_some {s : DSt} {μ : Mu} {Q : DK} {i : Nat} {d : D} (h : s[i]? = some (some d)) : dVar i s μ Q = Q d μ := by
  unfold dVar; rw [h]
theorem ev_var (i : Nat) (s : DSt) (μ : Mu) (Q : DK) : dVar i s μ Q = (match (s[i]?).getD none with | some d => Q d μ | none => False) := by
  unfold dVar
  cases h : s[i]? with
  | none => rfl
  | some o => cases o <;> rfl
theorem ev_C (d : D) (s : DSt) (μ : Mu) (Q : DK) : dC d s μ Q = Q d μ := (rfl)
theorem ev_op (r : D2) (ta tb : DE) (s : DSt) (μ : Mu) (Q : DK) : dOp r ta tb s μ Q = ta s μ fun x μ1 => tb s μ1 fun y μ2 => r x y μ2 Q := (rfl)
theorem ev_test (t : DE) (s : DSt) (μ : Mu) (Q : Bool → Mu → Prop) : dTest t s μ Q = t s μ fun d μ' => asB d fun c => Q c μ' := (rfl)
theorem ev_chain (r r' : D2) (ta tb tc : DE) (s : DSt) (μ : Mu) (Q : DK) : dChain r r' ta tb tc s μ Q = ta s μ fun x μ1 => tb s μ1 fun y μ2 => r x y μ2 fun z μ3 => asB z fun k => if k = true then tc s μ3 fun w μ4 => r' y w μ4 Q else Q (.bl false) μ3 := (rfl)
theorem ev_andT (t u : DT) (s : DSt) (μ : Mu) (Q : Bool → Mu → Prop) : dAndT t u s μ Q = t s μ fun c μ1 => if c = true then u s μ1 Q else Q false μ1 := (rfl)
theorem ev_orT (t u : DT) (s : DSt) (μ : Mu) (Q : Bool → Mu → Prop) : dOrT t u s μ Q = t s μ fun c μ1 => if c = true then Q true μ1 else u s μ1 Q := (rfl)
theorem ev_notT (t : DT) (s : DSt) (μ : Mu) (Q : Bool → Mu → Prop) : dNotT t s μ Q = t s μ fun c μ1 => Q (!c) μ1 := (rfl)
theorem ev_and (ta tb : DE) (s : DSt) (μ : Mu) (Q : DK) : dAnd ta tb s μ Q = ta s μ fun x μ1 => asB x fun c => if c = true then tb s μ1 Q else Q (.bl false) μ1 := (rfl)
theorem ev_or (ta tb : DE) (s : DSt) (μ : Mu) (Q : DK) : dOr ta tb s μ Q = ta s μ fun x μ1 => asB x fun c => if c = true then Q (.bl true) μ1 else tb s μ1 Q := (rfl)
theorem ev_not (ta : DE) (s : DSt) (μ : Mu) (Q : DK) : dNot ta s μ Q = ta s μ fun x μ1 => asB x fun c => Q (.bl (!c)) μ1 := (rfl)
theorem ev_ifE (t : DT) (ta tb : DE) (s : DSt) (μ : Mu) (Q : DK) : dIfE t ta tb s μ Q = t s μ fun c μ1 => if c = true then ta s μ1 Q else tb s μ1 Q := (rfl)
theorem ev_nil (s : DSt) (μ : Mu) (Q : List D → Mu → Prop) : dNil s μ Q = Q [] μ := (rfl)
theorem ev_cons (ta : DE) (tr : DA) (s : DSt) (μ : Mu) (Q : List D → Mu → Prop) : dCons ta tr s μ Q = ta s μ fun x μ1 => tr s μ1 fun xs μ2 => Q (x :: xs) μ2 := (rfl)
theorem ev_tup (t : DA) (s : DSt) (μ : Mu) (Q : DK) : dTup t s μ Q = t s μ fun xs μ1 => xs.length ≤ sizeLine ∧ Q (.tup xs) μ1 := (rfl)
theorem ev_lst (t : DA) (s : DSt) (μ : Mu) (Q : DK) : dLst t s μ Q = t s μ fun xs μ1 => xs.length ≤ sizeLine ∧ ∀ p, μ1 p = none → Q (.obj p) (put μ1 p (.lst xs)) := (rfl)
theorem ev_un (r : D → Mu → DK → Prop) (ta : DE) (s : DSt) (μ : Mu) (Q : DK) : dUn r ta s μ Q = ta s μ fun x μ1 => r x μ1 Q := (rfl)
theorem ev_cb (r : DCl) (t : DA) (s : DSt) (μ : Mu) (Q : DK) : dCB r t s μ Q = t s μ fun ds μ1 => r ds μ1 Q := (rfl)
theorem ev_bm0 (T : String) (r : DMt) (to : DE) (s : DSt) (μ : Mu) (Q : DK) : dBM0 T r to s μ Q = to s μ fun x μ1 => recv T x μ1 ∧ r x [] μ1 Q := (rfl)
theorem ev_bm (T : String) (r : DMt) (to : DE) (t : DA) (s : DSt) (μ : Mu) (Q : DK) : dBM T r to t s μ Q = to s μ fun x μ1 => recv T x μ1 ∧ t s μ1 fun xs μ2 => r x xs μ2 Q := (rfl)
theorem ev_sl (r : DSl) (te : DE) (tl th : DO) (s : DSt) (μ : Mu) (Q : DK) : dSl r te tl th s μ Q = te s μ fun x μ1 => tl s μ1 fun l μ2 => th s μ2 fun u μ3 => r x l u μ3 Q := (rfl)
theorem ev_noP (s : DSt) (μ : Mu) (Q : Option Int → Mu → Prop) : dNoP s μ Q = Q none μ := (rfl)
theorem ev_part (t : DE) (s : DSt) (μ : Mu) (Q : Option Int → Mu → Prop) : dPart t s μ Q = t s μ fun d μ' => asI d fun i => Q (some i) μ' := (rfl)
theorem ev_fgt (t : DE) (s : DSt) (μ : Mu) (Q : DK) : dFgt t s μ Q = t s μ fun d μ' => Fgt μ' (Q d) := (rfl)
theorem ev_seq (t u : DS) (E : DEnds) (s : DSt) (μ : Mu) : dSeq t u E s μ = t { E with nx := u E } s μ := (rfl)
theorem ev_next (E : DEnds) (s : DSt) (μ : Mu) : dNext E s μ = E.nx s μ := (rfl)
theorem ev_drop (te : DE) (E : DEnds) (s : DSt) (μ : Mu) : dDrop te E s μ = te s μ fun _ μ1 => E.nx s μ1 := (rfl)
theorem ev_ret (te : DE) (E : DEnds) (s : DSt) (μ : Mu) : dRet te E s μ = te s μ E.rt := (rfl)
theorem ev_if (c : DT) (t u : DS) (E : DEnds) (s : DSt) (μ : Mu) : dIf c t u E s μ = c s μ fun b μ1 => if b = true then t E s μ1 else u E s μ1 := (rfl)
theorem ev_asg (te : DE) (tg : Tg) (E : DEnds) (s : DSt) (μ : Mu) : dAsg te tg E s μ = te s μ fun d μ1 => dBind tg d s fun s2 => E.nx s2 μ1 := (rfl)
theorem ev_bnm (i : Nat) (d : D) (s : DSt) (Q : DSt → Prop) : dBind (.nm i) d s Q = Q (s.set i (some d)) := (rfl)
theorem ev_btp (is : List Nat) (d : D) (s : DSt) (Q : DSt → Prop) : dBind (.tp is) d s Q = asT d fun ds => ds.length = is.length ∧ Q (setAll s is ds) := (rfl)
theorem ev_sac (i : Nat) (is : List Nat) (d : D) (ds : List D) (s : DSt) : setAll s (i :: is) (d :: ds) = setAll (s.set i (some d)) is ds := (rfl)
theorem ev_san (s : DSt) : setAll s [] [] = s := (rfl)
theorem ev_par (i j : Nat) (ta : DA) (E : DEnds) (s : DSt) (μ : Mu) : dPar i j ta E s μ = ta s μ fun ds μ1 => match ds with
  | [a, b] => E.nx (List.set (List.set s i (some a)) j (some b)) μ1
  | _ => False := (rfl)
theorem ev_par3 (i j l : Nat) (ta : DA) (E : DEnds) (s : DSt) (μ : Mu) : dPar3 i j l ta E s μ = ta s μ fun ds μ1 => match ds with
  | [a, b, c] => E.nx (List.set (List.set (List.set s i (some a)) j (some b)) l (some c)) μ1
  | _ => False := (rfl)
theorem ev_put (te to ti : DE) (r : D → D → D → Mu → (Mu → Prop) → Prop) (E : DEnds) (s : DSt) (μ : Mu) : dPut te to ti r E s μ = te s μ fun v μ1 => to s μ1 fun o μ2 => ti s μ2 fun i μ3 => r o i v μ3 fun μ4 => E.nx s μ4 := (rfl)
theorem ev_yes (s : DSt) (μ : Mu) (Q : Bool → Mu → Prop) : dYes s μ Q = Q true μ := (rfl)
def revD (x : D) (μ1 : Mu) (Q : DK) : Prop := match x with
  | .rol ds => ∀ p, μ1 p = none → Q (.obj p) (put μ1 p (.lst ds.reverse))
  | .obj a => (match μ1 a with
    | some (.lst ds) => ∀ p, μ1 p = none → Q (.obj p) (put μ1 p (.lst ds.reverse))
    | _ => False)
  | _ => False
theorem ev_rev (te : DE) (s : DSt) (μ : Mu) (Q : DK) : dRev te s μ Q = te s μ fun x μ1 => revD x μ1 Q := (rfl)
theorem revD_obj {a : Addr} {μ : Mu} {ds : List D} (h : μ a = some (.lst ds)) (Q : DK) : revD (.obj a) μ Q = ∀ p, μ p = none → Q (.obj p) (put μ p (.lst ds.reverse)) := by
  unfold revD; simp only [h]
theorem ev_newD (s : DSt) (μ : Mu) (Q : DK) : dNewD s μ Q = ∀ p, μ p = none → Q (.obj p) (put μ p (.dK [])) := (rfl)
theorem asB_bl (b : Bool) (P : Bool → Prop) : asB (.bl b) P = P b := (rfl)
theorem asI_int (i : Int) (P : Int → Prop) : asI (.int i) P = P i := (rfl)
theorem asT_tup (ds : List D) (P : List D → Prop) : asT (.tup ds) P = P ds := (rfl)
theorem as1_one (d : D) (P : D → Prop) : as1 [d] P = P d := (rfl)
theorem as2_two (d e : D) (P : D → D → Prop) : as2 [d, e] P = P d e := (rfl)
theorem rInt_ii (C : Int → Int → Prop) (g : Int → Int → D) (i j : Int) (μ : Mu) (Q : DK) : rInt C g (.int i) (.int j) μ Q = (C i j ∧ Q (g i j) μ) := (rfl)
theorem rInt0_ii (g : Int → Int → D) (i j : Int) (μ : Mu) (Q : DK) : rInt0 g (.int i) (.int j) μ Q = Q (g i j) μ := (rfl)
theorem rAdd_ii (i j : Int) (μ : Mu) (Q : DK) : rAddD (.int i) (.int j) μ Q = Q (.int (i + j)) μ := (rfl)
theorem rAdd_ss (a b : Str) (μ : Mu) (Q : DK) : rAddD (.str a) (.str b) μ Q = (a.length + b.length ≤ sizeLine ∧ Q (.str (a ++ b)) μ) := (rfl)
theorem rAdd_tt (a b : List D) (μ : Mu) (Q : DK) : rAddD (.tup a) (.tup b) μ Q = (a.length + b.length ≤ sizeLine ∧ Q (.tup (a ++ b)) μ) := (rfl)
theorem rAdd_ll (a b : Addr) (μ : Mu) (Q : DK) : rAddD (.obj a) (.obj b) μ Q = ∃ xs ys, μ a = some (.lst xs) ∧ μ b = some (.lst ys) ∧ xs.length + ys.length ≤ sizeLine ∧ ∀ p, μ p = none → Q (.obj p) (put μ p (.lst (xs ++ ys))) := (rfl)
theorem rEq_ii (i j : Int) (μ : Mu) (Q : DK) : rEqD (.int i) (.int j) μ Q = Q (.bl (decide (i = j))) μ := (rfl)
theorem rEq_ss (i j : Str) (μ : Mu) (Q : DK) : rEqD (.str i) (.str j) μ Q = Q (.bl (decide (i = j))) μ := (rfl)
theorem rNe_ii (i j : Int) (μ : Mu) (Q : DK) : rNeD (.int i) (.int j) μ Q = Q (.bl (!decide (i = j))) μ := (rfl)
theorem rNeg_i (i : Int) (μ : Mu) (Q : DK) : rNegD (.int i) μ Q = Q (.int (-i)) μ := (rfl)
theorem rIx_t (ds : List D) (i : Int) (μ : Mu) (Q : DK) : rIxD (.tup ds) (.int i) μ Q = (match atI ds i with | some d => Q d μ | none => False) := (rfl)
theorem rIx_r (ds : List D) (i : Int) (μ : Mu) (Q : DK) : rIxD (.rol ds) (.int i) μ Q = (match atI ds i with | some d => Q d μ | none => False) := (rfl)
theorem rIx_s (z : Str) (i : Int) (μ : Mu) (Q : DK) : rIxD (.str z) (.int i) μ Q = (z.length ≤ sizeLine ∧ (match atI z.cps.toList i with | some c => Q (.str ⟨#[c]⟩) μ | none => False)) := (rfl)
theorem rIx_l {a : Addr} {μ : Mu} {ds : List D} (h : μ a = some (.lst ds)) (i : Int) (Q : DK) : rIxD (.obj a) (.int i) μ Q = (match atI ds i with | some d => Q d μ | none => False) := by
  unfold rIxD; simp only [h]; rfl
theorem rIx_ds {a : Addr} {μ : Mu} {kvs : List (Key × D)} (h : μ a = some (.dK kvs)) (k : Str) (Q : DK) : rIxD (.obj a) (.str k) μ Q = (match getD kvs (.inr k) with | some d => Q d μ | none => False) := by
  unfold rIxD; simp only [h]; rfl
theorem rIx_di {a : Addr} {μ : Mu} {kvs : List (Key × D)} (h : μ a = some (.dK kvs)) (k : Int) (Q : DK) : rIxD (.obj a) (.int k) μ Q = (match getD kvs (.inl k) with | some d => Q d μ | none => False) := by
  unfold rIxD; simp only [h]; rfl
theorem rPut_ds {a : Addr} {μ : Mu} {kvs : List (Key × D)} (h : μ a = some (.dK kvs)) (k : Str) (v : D) (Q : Mu → Prop) : rPutD (.obj a) (.str k) v μ Q = (kvs.length < sizeLine ∧ Q (put μ a (.dK (putD kvs (.inr k) v)))) := by
  unfold rPutD; simp only [h]; rfl
theorem rPut_di {a : Addr} {μ : Mu} {kvs : List (Key × D)} (h : μ a = some (.dK kvs)) (k : Int) (v : D) (Q : Mu → Prop) : rPutD (.obj a) (.int k) v μ Q = (kvs.length < sizeLine ∧ Q (put μ a (.dK (putD kvs (.inl k) v)))) := by
  unfold rPutD; simp only [h]; rfl
theorem rIn_di {a : Addr} {μ : Mu} {kvs : List (Key × D)} (h : μ a = some (.dK kvs)) (k : Int) (Q : DK) : rInDictD (.int k) (.obj a) μ Q = Q (.bl (getD kvs (.inl k)).isSome) μ := by
  unfold rInDictD; simp only [h]; rfl
theorem rLen_t (xs : List D) (μ : Mu) (Q : DK) : rLenD [.tup xs] μ Q = Q (.int xs.length) μ := (rfl)
theorem rLen_l {a : Addr} {μ : Mu} {xs : List D} (h : μ a = some (.lst xs)) (Q : DK) : rLenD [.obj a] μ Q = Q (.int xs.length) μ := by
  unfold rLenD as1; simp only [h]
theorem rAbs_i (i : Int) (μ : Mu) (Q : DK) : rAbsD [.int i] μ Q = Q (.int (if i < 0 then -i else i)) μ := (rfl)
theorem rToInt_i (i : Int) (μ : Mu) (Q : DK) : rToIntD [.int i] μ Q = Q (.int i) μ := (rfl)
theorem rToInt_b (b : Bool) (μ : Mu) (Q : DK) : rToIntD [.bl b] μ Q = Q (.int (if b = true then 1 else 0)) μ := (rfl)
theorem rToStr_i (i : Int) (μ : Mu) (Q : DK) : rToStrD [.int i] μ Q = (i.natAbs.log2 < 1920 ∧ Q (.str (Str.ofString (toString i))) μ) := (rfl)
theorem rMax_ii (i j : Int) (μ : Mu) (Q : DK) : rMaxD [.int i, .int j] μ Q = Q (.int (max i j)) μ := (rfl)
theorem rMin_ii (i j : Int) (μ : Mu) (Q : DK) : rMinD [.int i, .int j] μ Q = Q (.int (min i j)) μ := (rfl)
theorem rToTup_t (xs : List D) (μ : Mu) (Q : DK) : rToTupD [.tup xs] μ Q = Q (.tup xs) μ := (rfl)
theorem rToTup_l {a : Addr} {μ : Mu} {xs : List D} (h : μ a = some (.lst xs)) (Q : DK) : rToTupD [.obj a] μ Q = Q (.tup xs) μ := by
  unfold rToTupD as1 asSeq seqD; simp only [h]
theorem seqD_l {a : Addr} {μ : Mu} {xs : List D} (h : μ a = some (.lst xs)) : seqD (.obj a) μ = some xs := by
  unfold seqD; simp only [h]
theorem recv_l {a : Addr} {μ : Mu} {xs : List D} (h : μ a = some (.lst xs)) (T : String) : recv T (.obj a) μ = (T = "list") := by
  unfold recv; simp only [h]
theorem rApp_l {a : Addr} {μ : Mu} {xs : List D} (h : μ a = some (.lst xs)) (y : D) (Q : DK) : rAppD (.obj a) [y] μ Q = (xs.length < sizeLine ∧ Q .non (put μ a (.lst (xs ++ [y])))) := by
  unfold rAppD as1 asL; simp only [h]
theorem rPop0_l {a : Addr} {μ : Mu} {xs : List D} (h : μ a = some (.lst xs)) (Q : DK) : rPop0D (.obj a) [] μ Q = (match xs[xs.length - 1]? with | some y => Q y (put μ a (.lst xs.dropLast)) | none => False) := by
  unfold rPop0D asL; simp only [h] <;> rfl
theorem rPopI_l {a : Addr} {μ : Mu} {xs : List D} (h : μ a = some (.lst xs)) (i : Int) (Q : DK) : rPopID (.obj a) [.int i] μ Q = (-(2 ^ 63) ≤ i ∧ i < 2 ^ 63 ∧ (match ixN xs.length i with
  | some k => (match xs[k]? with | some y => Q y (put μ a (.lst (xs.eraseIdx k))) | none => False)
  | none => False)) := by
  unfold rPopID as1 asI asL; simp only [h] <;> rfl
theorem fgt_of {μ μ' : Mu} {P : Mu → Prop} (s : Sub μ μ') (h : P μ) : Fgt μ' P := ⟨μ, s, h⟩
theorem fgt_self {μ : Mu} {P : Mu → Prop} (h : P μ) : Fgt μ P := ⟨μ, Sub.refl μ, h⟩
/-! comprehensions whose parts leave all as it is -/
theorem lc_filter {α : Type} {w : DI} {tg : Tg} {tt : DT} {elt : DE} {vs : List Nat} {s : DSt} {μ : Mu} {Q : DK} (xs : List α) (g h : α → D) (c : α → Bool) (stab : Mu → Prop) (hw : ∀ R : List D → (Mu → Prop) → Mu → Prop, R (xs.map g) stab μ → w s μ R) (hst : ∀ p acc, μ p = none → stab (put μ p (.lst acc))) (hl : xs.length < sizeLine)
    (he : ∀ x ∈ xs, ∀ (μ' : Mu) (R : Bool → DK), (c x = true → R true (h x) μ') → (c x = false → R false .non μ') → dBind tg (g x) (dwipe s vs) fun s2 => tt s2 μ' fun b μ3 => if b = true then elt s2 μ3 (R true) else R false .non μ3)
    (hq : ∀ p, μ p = none → Q (.obj p) (put μ p (.lst ((xs.filter c).map h)))) : dLc w tg tt elt vs s μ Q := by
  refine hw _ fun p hp => ⟨fun i acc μ' => acc = ((xs.take i).filter c).map h ∧ μ' = put μ p (.lst acc), ⟨by simp, rfl⟩, fun i acc μ' ⟨_, e⟩ => ?_, fun i d acc μ' hd ⟨ea, e⟩ => ?_, fun acc μ' ⟨ea, e⟩ => ?_⟩
  · rw [e]; exact ⟨put_same, hst p acc hp⟩
  · rw [List.getElem?_map] at hd
    cases hx : xs[i]? with
    | none => rw [hx] at hd; cases hd
    | some x =>
      rw [hx] at hd
      cases hd
      have hm : x ∈ xs := List.mem_of_getElem? hx
      have hlen : acc.length ≤ xs.length := by
        rw [ea, List.length_map]
        exact Nat.le_trans (List.length_filter_le _ _) (by rw [List.length_take]; omega)
      have et : ((xs.take (i + 1)).filter c) = ((xs.take i).filter c) ++ [x].filter c := by
        rw [List.take_add_one, hx]
        simp
      refine he x hm μ' (fun b y μ4 => if b = true then μ4 p = some (.lst acc) ∧ acc.length < sizeLine ∧ (acc ++ [y] = ((xs.take (i + 1)).filter c).map h ∧ put μ4 p (.lst (acc ++ [y])) = put μ p (.lst (acc ++ [y]))) else acc = ((xs.take (i + 1)).filter c).map h ∧ μ4 = put μ p (.lst acc)) (fun hc => ?_) (fun hc => ?_)
      · rw [if_pos rfl, e]
        refine ⟨put_same, Nat.lt_of_le_of_lt hlen hl, ?_, by rw [put_put]⟩
        rw [et, List.filter_cons_of_pos hc, ea]
        simp
      · rw [if_neg Bool.false_ne_true]
        refine ⟨?_, e⟩
        rw [et, List.filter_cons_of_neg (by simp [hc]), ea]
        simp
  · rw [List.length_map, List.take_length] at ea
    rw [e, ea]
    exact hq p hp
theorem lc_map {α : Type} {w : DI} {tg : Tg} {elt : DE} {vs : List Nat} {s : DSt} {μ : Mu} {Q : DK} (xs : List α) (g h : α → D) (stab : Mu → Prop) (hw : ∀ R : List D → (Mu → Prop) → Mu → Prop, R (xs.map g) stab μ → w s μ R) (hst : ∀ p acc, μ p = none → stab (put μ p (.lst acc))) (hl : xs.length < sizeLine)
    (he : ∀ x ∈ xs, ∀ (μ' : Mu) (R : DK), R (h x) μ' → dBind tg (g x) (dwipe s vs) fun s2 => elt s2 μ' R) (hq : ∀ p, μ p = none → Q (.obj p) (put μ p (.lst (xs.map h)))) : dLc w tg dYes elt vs s μ Q := by
  refine lc_filter xs g h (fun _ => true) stab hw hst hl (fun x hx μ' R h1 _ => ?_) (fun p hp => ?_)
  · have := he x hx μ' (R true) (h1 rfl)
    simp only [ev_yes, if_true]
    exact this
  · have e : xs.filter (fun _ => true) = xs := List.filter_eq_self.mpr fun _ _ => rfl
    rw [e]
    exact hq p hp
theorem w_tup {te : DE} {s : DSt} {μ : Mu} {ds : List D} (h : ∀ Q : DK, Q (.tup ds) μ → te s μ Q) : ∀ R : List D → (Mu → Prop) → Mu → Prop, R ds (fun _ => True) μ → diSeq te s μ R := fun R q => h _ q
theorem w_lst {te : DE} {s : DSt} {μ : Mu} {a : Addr} {ds : List D} (e : μ a = some (.lst ds)) (h : ∀ Q : DK, Q (.obj a) μ → te s μ Q) : ∀ R : List D → (Mu → Prop) → Mu → Prop, R ds (fun μ' => μ' a = some (.lst ds)) μ → diSeq te s μ R := fun R q => h _ (by
  show (match μ a with
    | some (.lst ds) => R ds (fun μ' => μ' a = some (.lst ds)) μ
    | _ => False)
  rw [e]
  exact q)
theorem ev_diSeq_tup {te : DE} {s : DSt} {μ : Mu} {R : List D → (Mu → Prop) → Mu → Prop} : diSeq te s μ R = te s μ fun d μ1 => match d with
  | .tup ds => R ds (fun _ => True) μ1
  | .rol ds => R ds (fun _ => True) μ1
  | .obj a => (match μ1 a with
    | some (.lst ds) => R ds (fun μ' => μ' a = some (.lst ds)) μ1
    | _ => False)
  | _ => False := (rfl)
theorem lt_line {n : Nat} (h : n ≤ 1000) : n < sizeLine := Nat.lt_of_le_of_lt h (by decide)
theorem le_line {n : Nat} (h : n ≤ 1000) : n ≤ sizeLine := Nat.le_of_lt (lt_line h)
/-! loops -/
theorem for_r1 {ta : DA} {tb : DS} {tg : Tg} {E : DEnds} {s : DSt} {μ : Mu} (n : Int) (ht : ∀ R : List D → Mu → Prop, R [.int n] μ → ta s μ R) (hn : Sm n) (W : Nat → DSt → Mu → Prop) (h0 : W 0 s μ)
    (hs : ∀ (i : Nat) s μ, i < n.toNat → W i s μ → dBind tg (.int (i : Int)) s fun s2 => tb { E with nx := W (i + 1), ct := W (i + 1), bk := E.nx } s2 μ) (hd : ∀ s μ, W n.toNat s μ → E.nx s μ) : dFor (diR1 ta) tg tb E s μ := by
  refine ht _ (show Sm n ∧ _ from ⟨hn, W, h0, fun _ _ _ _ => True.intro, fun i d s μ hd iv => ?_, fun s μ iv => hd s μ (by rw [rngD_len] at iv; exact iv)⟩)
  obtain ⟨hl, rfl⟩ := rngD_get hd
  rw [Int.zero_add]
  exact hs i s μ hl iv
theorem for_r2 {ta : DA} {tb : DS} {tg : Tg} {E : DEnds} {s : DSt} {μ : Mu} (a n : Int) (ht : ∀ R : List D → Mu → Prop, R [.int a, .int n] μ → ta s μ R) (ha : Sm a) (hn : Sm n) (W : Nat → DSt → Mu → Prop) (h0 : W 0 s μ)
    (hs : ∀ (i : Nat) s μ, i < (n - a).toNat → W i s μ → dBind tg (.int (a + (i : Int))) s fun s2 => tb { E with nx := W (i + 1), ct := W (i + 1), bk := E.nx } s2 μ) (hd : ∀ s μ, W (n - a).toNat s μ → E.nx s μ) : dFor (diR2 ta) tg tb E s μ := by
  refine ht _ (show Sm a ∧ Sm n ∧ _ from ⟨ha, hn, W, h0, fun _ _ _ _ => True.intro, fun i d s μ hd iv => ?_, fun s μ iv => hd s μ (by rw [rngD_len] at iv; exact iv)⟩)
  obtain ⟨hl, rfl⟩ := rngD_get hd
  exact hs i s μ hl iv
theorem for_tup {te : DE} {tb : DS} {tg : Tg} {E : DEnds} {s : DSt} {μ : Mu} (ds : List D) (ht : ∀ R : DK, R (.tup ds) μ → te s μ R) (W : Nat → DSt → Mu → Prop) (h0 : W 0 s μ)
    (hs : ∀ (i : Nat) d s μ, ds[i]? = some d → W i s μ → dBind tg d s fun s2 => tb { E with nx := W (i + 1), ct := W (i + 1), bk := E.nx } s2 μ) (hd : ∀ s μ, W ds.length s μ → E.nx s μ) : dFor (diSeq te) tg tb E s μ :=
  ht _ (show ∃ W : Nat → DSt → Mu → Prop, _ from ⟨W, h0, fun _ _ _ _ => True.intro, hs, hd⟩)
/-- over a list that the body leaves as it is; te may make it -/
theorem for_lst {te : DE} {tb : DS} {tg : Tg} {E : DEnds} {s : DSt} {μ : Mu} (h : te s μ fun d μ1 => ∃ a ds, d = .obj a ∧ μ1 a = some (.lst ds) ∧ ∃ W : Nat → DSt → Mu → Prop, W 0 s μ1 ∧ (∀ i s μ, W i s μ → μ a = some (.lst ds)) ∧
    (∀ (i : Nat) d s μ, ds[i]? = some d → W i s μ → dBind tg d s fun s2 => tb { E with nx := W (i + 1), ct := W (i + 1), bk := E.nx } s2 μ) ∧ ∀ s μ, W ds.length s μ → E.nx s μ)
    (mono : ∀ Q Q' : DK, (∀ d μ, Q d μ → Q' d μ) → te s μ Q → te s μ Q') : dFor (diSeq te) tg tb E s μ := by
  refine mono _ _ (fun d μ1 q => ?_) h
  obtain ⟨a, ds, rfl, e, W, h0, h1, h2, h3⟩ := q
  show (match μ1 a with
    | some (.lst ds) => _
    | _ => False)
  rw [e]
  exact ⟨W, h0, h1, h2, h3⟩
/-! comprehensions over what is made on the way -/
def seqI (d : D) (μ1 : Mu) (R : List D → (Mu → Prop) → Mu → Prop) : Prop := match d with
  | .tup ds => R ds (fun _ => True) μ1
  | .rol ds => R ds (fun _ => True) μ1
  | .obj a => (match μ1 a with
    | some (.lst ds) => R ds (fun μ' => μ' a = some (.lst ds)) μ1
    | _ => False)
  | _ => False
theorem ev_diSeq (te : DE) (s : DSt) (μ : Mu) (R : List D → (Mu → Prop) → Mu → Prop) : diSeq te s μ R = te s μ fun d μ1 => seqI d μ1 R := (rfl)
theorem seqI_obj {a : Addr} {μ : Mu} {ds : List D} (h : μ a = some (.lst ds)) (R : List D → (Mu → Prop) → Mu → Prop) : seqI (.obj a) μ R = R ds (fun μ' => μ' a = some (.lst ds)) μ := by
  unfold seqI; simp only [h]
theorem seqI_tup (ds : List D) (μ : Mu) (R : List D → (Mu → Prop) → Mu → Prop) : seqI (.tup ds) μ R = R ds (fun _ => True) μ := (rfl)
def LcB (tg : Tg) (tt : DT) (te : DE) (vs : List Nat) (s : DSt) (Q : DK) (ds : List D) (stab : Mu → Prop) (μ1 : Mu) : Prop := ∀ p, μ1 p = none → ∃ Inv : Nat → List D → Mu → Prop, Inv 0 [] (put μ1 p (.lst [])) ∧ (∀ i acc μ, Inv i acc μ → μ p = some (.lst acc) ∧ stab μ) ∧
  (∀ i d acc μ, ds[i]? = some d → Inv i acc μ → dBind tg d (dwipe s vs) fun s2 => tt s2 μ fun b μ3 => if b = true then te s2 μ3 fun y μ4 => μ4 p = some (.lst acc) ∧ acc.length < sizeLine ∧ Inv (i + 1) (acc ++ [y]) (put μ4 p (.lst (acc ++ [y]))) else Inv (i + 1) acc μ3) ∧
  ∀ acc μ, Inv ds.length acc μ → Q (.obj p) μ
theorem ev_lc (w : DI) (tg : Tg) (tt : DT) (te : DE) (vs : List Nat) (s : DSt) (μ : Mu) (Q : DK) : dLc w tg tt te vs s μ Q = w s μ (LcB tg tt te vs s Q) := (rfl)
theorem lcB_filter {α : Type} {tg : Tg} {tt : DT} {elt : DE} {vs : List Nat} {s : DSt} {μ : Mu} {Q : DK} {stab : Mu → Prop} {ds : List D} (xs : List α) (g h : α → D) (c : α → Bool) (hds : ds = xs.map g) (hst : ∀ p acc, μ p = none → stab (put μ p (.lst acc))) (hl : xs.length < sizeLine)
    (he : ∀ x ∈ xs, ∀ (μ' : Mu) (R : Bool → DK), (c x = true → R true (h x) μ') → (c x = false → R false .non μ') → dBind tg (g x) (dwipe s vs) fun s2 => tt s2 μ' fun b μ3 => if b = true then elt s2 μ3 (R true) else R false .non μ3)
    (hq : ∀ p, μ p = none → Q (.obj p) (put μ p (.lst ((xs.filter c).map h)))) : LcB tg tt elt vs s Q ds stab μ := by
  have := lc_filter (w := fun _ μ R => R (xs.map g) stab μ) (tg := tg) (tt := tt) (elt := elt) (vs := vs) (s := s) (μ := μ) (Q := Q) xs g h c stab (fun R h => h) hst hl he hq
  rw [hds]
  exact this
theorem lcB_map {α : Type} {tg : Tg} {elt : DE} {vs : List Nat} {s : DSt} {μ : Mu} {Q : DK} {stab : Mu → Prop} {ds : List D} (xs : List α) (g h : α → D) (hds : ds = xs.map g) (hst : ∀ p acc, μ p = none → stab (put μ p (.lst acc))) (hl : xs.length < sizeLine)
    (he : ∀ x ∈ xs, ∀ (μ' : Mu) (R : DK), R (h x) μ' → dBind tg (g x) (dwipe s vs) fun s2 => elt s2 μ' R) (hq : ∀ p, μ p = none → Q (.obj p) (put μ p (.lst (xs.map h)))) : LcB tg dYes elt vs s Q ds stab μ := by
  have := lc_map (w := fun _ μ R => R (xs.map g) stab μ) (tg := tg) (elt := elt) (vs := vs) (s := s) (μ := μ) (Q := Q) xs g h stab (fun R h => h) hst hl he hq
  rw [hds]
  exact this
theorem ev_disp (prs : List (DE × DE)) (s : DSt) (μ : Mu) (Q : DK) : dDisp prs s μ Q = ∀ p, μ p = none → dPairs prs s (put μ p (.dK [])) fun ps μ2 => μ2 p = some (.dK []) ∧ (match keysD ps with
  | some kvs => kvs.length ≤ 15 ∧ Q (.obj p) (put μ2 p (.dK (mergeD [] kvs)))
  | none => False) := (rfl)
theorem ev_pcons (tk tv : DE) (r : List (DE × DE)) (s : DSt) (μ : Mu) (Q : List (D × D) → Mu → Prop) : dPairs ((tk, tv) :: r) s μ Q = tk s μ fun k μ1 => tv s μ1 fun v μ2 => dPairs r s μ2 fun ps μ3 => Q ((k, v) :: ps) μ3 := (rfl)
theorem ev_pnil (s : DSt) (μ : Mu) (Q : List (D × D) → Mu → Prop) : dPairs [] s μ Q = Q [] μ := (rfl)
theorem rSl_r (ds : List D) (lo hi : Option Int) (μ : Mu) (Q : DK) : rSlD (.rol ds) lo hi μ Q = ∀ p, μ p = none → Q (.obj p) (put μ p (.lst (cutD ds lo hi))) := (rfl)
theorem rSl_t (ds : List D) (lo hi : Option Int) (μ : Mu) (Q : DK) : rSlD (.tup ds) lo hi μ Q = Q (.tup (cutD ds lo hi)) μ := (rfl)
def cutI {α : Type} (xs : List α) (lo hi : Option Int) : List α := (xs.drop (HT.sIx xs.length 0 lo)).take (HT.sIx xs.length xs.length hi - HT.sIx xs.length 0 lo)
theorem cutD_map {α : Type} (f : α → D) (xs : List α) (lo hi : Option Int) : cutD (xs.map f) lo hi = (cutI xs lo hi).map f := by
  unfold cutD cutI
  rw [List.length_map, List.map_take, List.map_drop]
theorem cutI_len {α : Type} (xs : List α) (lo hi : Option Int) : (cutI xs lo hi).length ≤ xs.length := by
  unfold cutI
  rw [List.length_take, List.length_drop]
  omega
/-- a new place is no old one -/
theorem ne_new {μ : Mu} {a p : Addr} {m : MO} (h : μ a = some m) (hp : μ p = none) : a ≠ p := fun e => by
  rw [e, hp] at h; cases h
theorem put_old {μ : Mu} {a p : Addr} {m n : MO} (h : μ a = some m) (hp : μ p = none) : put μ p n a = some m := by
  rw [put_ne (ne_new h hp)]; exact h
end DD
end
section
/-! boxes and what they make together: plain arithmetic, no program -/
namespace K53
structure Box where
  w : Int
  s : Int
  e : Int
  n : Int
def stretch (a b : Box) : Int :=
  if min a.e b.e - max a.w b.w < 0 ∨ min a.n b.n - max a.s b.s < 0 then 0 else max (min a.e b.e - max a.w b.w) (min a.n b.n - max a.s b.s)
def lshare (a b : Box) : Int :=
  if min (min a.e b.e - max a.w b.w) (min a.n b.n - max a.s b.s) = 0 then max 0 (max (min a.e b.e - max a.w b.w) (min a.n b.n - max a.s b.s)) else 0
def Pr (b : Box) : Prop := b.w < b.e ∧ b.s < b.n
def NO (a b : Box) : Prop := a.e ≤ b.w ∨ b.e ≤ a.w ∨ a.n ≤ b.s ∨ b.n ≤ a.s
theorem NO.symm {a b : Box} (h : NO a b) : NO b a := by unfold NO at *; omega
theorem share_eq {a b : Box} (ha : Pr a) (hb : Pr b) (h : NO a b) : stretch a b = lshare a b := by
  unfold stretch lshare Pr NO at *
  by_cases c1 : min a.e b.e - max a.w b.w < 0
  · have e1 : ¬ min (min a.e b.e - max a.w b.w) (min a.n b.n - max a.s b.s) = 0 := by omega
    rw [if_pos (.inl c1), if_neg e1]
  · by_cases c2 : min a.n b.n - max a.s b.s < 0
    · have e1 : ¬ min (min a.e b.e - max a.w b.w) (min a.n b.n - max a.s b.s) = 0 := by omega
      rw [if_pos (.inr c2), if_neg e1]
    · have e1 : min (min a.e b.e - max a.w b.w) (min a.n b.n - max a.s b.s) = 0 := by omega
      rw [if_neg (by omega), if_pos e1]
      omega
theorem lshare_comm (a b : Box) : lshare a b = lshare b a := by
  unfold lshare
  rw [Int.min_comm a.e b.e, Int.max_comm a.w b.w, Int.min_comm a.n b.n, Int.max_comm a.s b.s]
theorem stretch_comm (a b : Box) : stretch a b = stretch b a := by
  unfold stretch
  rw [Int.min_comm a.e b.e, Int.max_comm a.w b.w, Int.min_comm a.n b.n, Int.max_comm a.s b.s]
/-- what two intervals have in common -/
def ov (a b c d : Int) : Int := max 0 (min b d - max a c)
theorem ov_cut {a m b c d : Int} (h1 : a < m) (h2 : m < b) (h : c < d) : ov a m c d + ov m b c d = ov a b c d := by
  unfold ov; omega
theorem lshare_x {a b : Box} (ha : Pr a) (hb : Pr b) (h : a.e = b.w ∨ b.e = a.w) : lshare a b = ov a.s a.n b.s b.n := by
  unfold lshare ov Pr at *
  have e : min a.e b.e - max a.w b.w = 0 := by omega
  rw [e]
  by_cases c : min a.n b.n - max a.s b.s < 0
  · rw [if_neg (by omega)]; omega
  · rw [if_pos (by omega)]; omega
theorem lshare_y {a b : Box} (ha : Pr a) (hb : Pr b) (h : a.n = b.s ∨ b.n = a.s) : lshare a b = ov a.w a.e b.w b.e := by
  unfold lshare ov Pr at *
  have e : min a.n b.n - max a.s b.s = 0 := by omega
  rw [e]
  by_cases c : min a.e b.e - max a.w b.w < 0
  · rw [if_neg (by omega)]; omega
  · rw [if_pos (by omega)]; omega
theorem lshare_0 {a b : Box} (h : a.e < b.w ∨ b.e < a.w ∨ a.n < b.s ∨ b.n < a.s) (ha : Pr a) (hb : Pr b) : lshare a b = 0 := by
  unfold lshare Pr at *
  rw [if_neg (by omega)]
theorem cut_v {w s e n c : Int} {b : Box} (h1 : w < c) (h2 : c < e) (h3 : s < n) (hb : Pr b) (h : NO ⟨w, s, e, n⟩ b) : lshare ⟨w, s, c, n⟩ b + lshare ⟨c, s, e, n⟩ b = lshare ⟨w, s, e, n⟩ b := by
  have p : Pr ⟨w, s, e, n⟩ := ⟨by show w < e; omega, h3⟩
  have p1 : Pr ⟨w, s, c, n⟩ := ⟨h1, h3⟩
  have p2 : Pr ⟨c, s, e, n⟩ := ⟨h2, h3⟩
  have hbw := hb.1
  have hbs := hb.2
  unfold NO at h
  simp only at h
  by_cases y1 : n < b.s ∨ b.n < s
  · rw [lshare_0 (.inr (.inr y1)) p hb, lshare_0 (.inr (.inr y1)) p1 hb, lshare_0 (.inr (.inr y1)) p2 hb]; rfl
  · by_cases y2 : n = b.s ∨ b.n = s
    · rw [lshare_y p hb y2, lshare_y p1 hb y2, lshare_y p2 hb y2]
      exact ov_cut h1 h2 hbw
    · by_cases x1 : e < b.w
      · rw [lshare_0 (.inl x1) p hb, lshare_0 (.inl (by show c < b.w; omega)) p1 hb, lshare_0 (.inl x1) p2 hb]; rfl
      · by_cases x2 : e = b.w
        · rw [lshare_x p hb (.inl x2), lshare_0 (.inl (by show c < b.w; omega)) p1 hb, lshare_x p2 hb (.inl x2)]
          exact Int.zero_add _
        · by_cases x3 : b.e < w
          · rw [lshare_0 (.inr (.inl x3)) p hb, lshare_0 (.inr (.inl x3)) p1 hb, lshare_0 (.inr (.inl (by show b.e < c; omega))) p2 hb]; rfl
          · have x4 : b.e = w := by omega
            rw [lshare_x p hb (.inr x4), lshare_x p1 hb (.inr x4), lshare_0 (.inr (.inl (by show b.e < c; omega))) p2 hb]
            exact Int.add_zero _
/-- axes exchanged -/
def fl (b : Box) : Box := ⟨b.s, b.w, b.n, b.e⟩
theorem lshare_fl (a b : Box) : lshare (fl a) (fl b) = lshare a b := by
  show (if min (min a.n b.n - max a.s b.s) (min a.e b.e - max a.w b.w) = 0 then max 0 (max (min a.n b.n - max a.s b.s) (min a.e b.e - max a.w b.w)) else 0) = _
  unfold lshare
  rw [Int.min_comm (min a.n b.n - max a.s b.s), Int.max_comm (min a.n b.n - max a.s b.s)]
theorem cut_h {w s e n c : Int} {b : Box} (h1 : s < c) (h2 : c < n) (h3 : w < e) (hb : Pr b) (h : NO ⟨w, s, e, n⟩ b) : lshare ⟨w, s, e, c⟩ b + lshare ⟨w, c, e, n⟩ b = lshare ⟨w, s, e, n⟩ b := by
  rw [← lshare_fl ⟨w, s, e, c⟩ b, ← lshare_fl ⟨w, c, e, n⟩ b, ← lshare_fl ⟨w, s, e, n⟩ b]
  refine cut_v h1 h2 h3 ⟨hb.2, hb.1⟩ ?_
  unfold NO at *
  simp only [fl] at *
  omega
/-! sums over lists -/
def area (b : Box) : Int := (b.e - b.w) * (b.n - b.s)
def rim (b : Box) : Int := 2 * ((b.e - b.w) + (b.n - b.s))
def suma (f : Box → Int) : List Box → Int
  | [] => 0
  | b :: r => f b + suma f r
def pairs (f : Box → Box → Int) : List Box → Int
  | [] => 0
  | b :: r => suma (f b) r + pairs f r
theorem suma_perm {f : Box → Int} {l l' : List Box} (h : l.Perm l') : suma f l = suma f l' := by
  induction h with
  | nil => rfl
  | cons x _ ih => simp only [suma, ih]
  | swap x y l => simp only [suma]; omega
  | trans _ _ h1 h2 => rw [h1, h2]
theorem pairs_perm {f : Box → Box → Int} (hf : ∀ a b, f a b = f b a) {l l' : List Box} (h : l.Perm l') : pairs f l = pairs f l' := by
  induction h with
  | nil => rfl
  | cons x p ih => simp only [pairs, ih, suma_perm p]
  | swap x y l => simp only [pairs, suma, hf x y]; omega
  | trans _ _ h1 h2 => rw [h1, h2]
theorem suma_add {f g k : Box → Int} : ∀ {l : List Box}, (∀ b ∈ l, f b + g b = k b) → suma f l + suma g l = suma k l
  | [], _ => rfl
  | b :: r, h => by
    have h1 := h b List.mem_cons_self
    have h2 := suma_add (l := r) fun c hc => h c (List.mem_cons_of_mem _ hc)
    simp only [suma]
    omega
/-- a floor of this width and height -/
structure Good (W H : Int) (l : List Box) : Prop where
  pr : ∀ b ∈ l, Pr b
  inn : ∀ b ∈ l, 0 ≤ b.w ∧ 0 ≤ b.s ∧ b.e ≤ W ∧ b.n ≤ H
  no : l.Pairwise NO
  rims : suma rim l = 2 * pairs lshare l + 2 * (W + H)
  area : suma area l = W * H
theorem pw_perm {l l' : List Box} (h : l.Perm l') (q : l.Pairwise NO) : l'.Pairwise NO := q.perm h fun h => h.symm
theorem Good.perm {W H : Int} {l l' : List Box} (h : l.Perm l') (g : Good W H l) : Good W H l' :=
  ⟨fun b hb => g.pr b (h.mem_iff.mpr hb), fun b hb => g.inn b (h.mem_iff.mpr hb), pw_perm h g.no, by rw [← suma_perm h, ← pairs_perm lshare_comm h]; exact g.rims, by rw [← suma_perm h]; exact g.area⟩
theorem good_v {W H w s e n c : Int} {r : List Box} (h1 : w < c) (h2 : c < e) : Good W H (⟨w, s, e, n⟩ :: r) ↔ Good W H (⟨w, s, c, n⟩ :: ⟨c, s, e, n⟩ :: r) := by
  constructor
  · intro g
    have h3 : s < n := (g.pr _ List.mem_cons_self).2
    have i0 := g.inn _ List.mem_cons_self
    simp only at i0
    have hno := List.pairwise_cons.mp g.no
    have hpr : ∀ b ∈ r, Pr b := fun b hb => g.pr b (List.mem_cons_of_mem _ hb)
    have sh : suma (lshare ⟨w, s, c, n⟩) r + suma (lshare ⟨c, s, e, n⟩) r = suma (lshare ⟨w, s, e, n⟩) r := suma_add fun b hb => cut_v h1 h2 h3 (hpr b hb) (hno.1 b hb)
    have s12 : lshare ⟨w, s, c, n⟩ ⟨c, s, e, n⟩ = n - s := by
      rw [lshare_x ⟨h1, h3⟩ ⟨h2, h3⟩ (.inl rfl)]
      show max 0 (min n n - max s s) = n - s
      omega
    refine ⟨?_, ?_, ?_, ?_, ?_⟩
    · intro b hb
      rcases List.mem_cons.mp hb with rfl | hb
      · exact ⟨h1, h3⟩
      · rcases List.mem_cons.mp hb with rfl | hb
        · exact ⟨h2, h3⟩
        · exact hpr b hb
    · intro b hb
      rcases List.mem_cons.mp hb with rfl | hb
      · simp only; omega
      · rcases List.mem_cons.mp hb with rfl | hb
        · simp only; omega
        · exact g.inn b (List.mem_cons_of_mem _ hb)
    · refine List.pairwise_cons.mpr ⟨fun b hb => ?_, List.pairwise_cons.mpr ⟨fun b hb => ?_, hno.2⟩⟩
      · rcases List.mem_cons.mp hb with rfl | hb
        · exact .inl (Int.le_refl _)
        · have := hno.1 b hb
          unfold NO at *
          simp only at *
          omega
      · have := hno.1 b hb
        unfold NO at *
        simp only at *
        omega
    · have q := g.rims
      simp only [suma, pairs, rim, s12] at q ⊢
      omega
    · have q := g.area
      simp only [suma, K53.area] at q ⊢
      rw [← q]
      have e1 : (c - w) * (n - s) + (e - c) * (n - s) = (e - w) * (n - s) := by
        rw [← Int.add_mul]; congr 1; omega
      omega
  · intro g
    have h3 : s < n := (g.pr _ List.mem_cons_self).2
    have i1 := g.inn _ List.mem_cons_self
    have i2 := g.inn ⟨c, s, e, n⟩ (List.mem_cons_of_mem _ List.mem_cons_self)
    simp only at i1 i2
    have hno1 := List.pairwise_cons.mp g.no
    have hno2 := List.pairwise_cons.mp hno1.2
    have hpr : ∀ b ∈ r, Pr b := fun b hb => g.pr b (List.mem_cons_of_mem _ (List.mem_cons_of_mem _ hb))
    have hno : ∀ b ∈ r, NO ⟨w, s, e, n⟩ b := fun b hb => by
      have q1 := hno1.1 b (List.mem_cons_of_mem _ hb)
      have q2 := hno2.1 b hb
      have q3 := (hpr b hb).1
      unfold NO at *
      simp only at *
      omega
    have sh : suma (lshare ⟨w, s, c, n⟩) r + suma (lshare ⟨c, s, e, n⟩) r = suma (lshare ⟨w, s, e, n⟩) r := suma_add fun b hb => cut_v h1 h2 h3 (hpr b hb) (hno b hb)
    have s12 : lshare ⟨w, s, c, n⟩ ⟨c, s, e, n⟩ = n - s := by
      rw [lshare_x ⟨h1, h3⟩ ⟨h2, h3⟩ (.inl rfl)]
      show max 0 (min n n - max s s) = n - s
      omega
    refine ⟨?_, ?_, ?_, ?_, ?_⟩
    · intro b hb
      rcases List.mem_cons.mp hb with rfl | hb
      · exact ⟨by show w < e; omega, h3⟩
      · exact hpr b hb
    · intro b hb
      rcases List.mem_cons.mp hb with rfl | hb
      · simp only; omega
      · exact g.inn b (List.mem_cons_of_mem _ (List.mem_cons_of_mem _ hb))
    · exact List.pairwise_cons.mpr ⟨hno, hno2.2⟩
    · have q := g.rims
      simp only [suma, pairs, rim, s12] at q ⊢
      omega
    · have q := g.area
      simp only [suma, K53.area] at q ⊢
      rw [← q]
      have e1 : (c - w) * (n - s) + (e - c) * (n - s) = (e - w) * (n - s) := by
        rw [← Int.add_mul]; congr 1; omega
      omega
/-! axes exchanged -/
theorem suma_map {f g : Box → Int} {h : Box → Box} (e : ∀ b, f (h b) = g b) : ∀ l : List Box, suma f (l.map h) = suma g l
  | [] => rfl
  | b :: r => by
    show f (h b) + suma f (r.map h) = g b + suma g r
    rw [e, suma_map e r]
theorem pairs_map {f g : Box → Box → Int} {h : Box → Box} (e : ∀ a b, f (h a) (h b) = g a b) : ∀ l : List Box, pairs f (l.map h) = pairs g l
  | [] => rfl
  | b :: r => by
    show suma (f (h b)) (r.map h) + pairs f (r.map h) = suma (g b) r + pairs g r
    rw [suma_map (g := g b) (fun c => e b c) r, pairs_map e r]
theorem good_fl {W H : Int} {l : List Box} (g : Good W H l) : Good H W (l.map fl) := by
  refine ⟨fun b hb => ?_, fun b hb => ?_, ?_, ?_, ?_⟩
  · obtain ⟨c, hc, rfl⟩ := List.mem_map.mp hb
    exact ⟨(g.pr c hc).2, (g.pr c hc).1⟩
  · obtain ⟨c, hc, rfl⟩ := List.mem_map.mp hb
    have := g.inn c hc
    exact ⟨this.2.1, this.1, this.2.2.2, this.2.2.1⟩
  · refine List.pairwise_map.mpr (g.no.imp fun {a b} h => ?_)
    unfold NO at *
    simp only [fl]
    omega
  · rw [suma_map (g := rim) (fun b => by simp only [rim, fl]; omega), pairs_map (g := lshare) lshare_fl, g.rims]
    omega
  · rw [suma_map (g := area) (fun b => by simp only [K53.area, fl]; exact Int.mul_comm _ _), g.area]
    exact Int.mul_comm _ _
theorem map_fl_fl (l : List Box) : (l.map fl).map fl = l := by
  rw [List.map_map]
  have : (fl ∘ fl) = id := by funext b; rfl
  rw [this, List.map_id]
theorem good_h {W H w s e n c : Int} {r : List Box} (h1 : s < c) (h2 : c < n) : Good W H (⟨w, s, e, n⟩ :: r) ↔ Good W H (⟨w, s, e, c⟩ :: ⟨w, c, e, n⟩ :: r) := by
  constructor
  · intro g
    have g1 := (good_v (r := r.map fl) h1 h2).mp (good_fl g)
    have g2 := good_fl g1
    have e : (Box.mk s w c e :: Box.mk c w n e :: r.map fl).map fl = ⟨w, s, e, c⟩ :: ⟨w, c, e, n⟩ :: r := by
      show _ :: _ :: (r.map fl).map fl = _
      rw [map_fl_fl]; rfl
    rw [e] at g2
    exact g2
  · intro g
    have g1 := (good_v (r := r.map fl) h1 h2).mpr (good_fl g)
    have g2 := good_fl g1
    have e : (Box.mk s w n e :: r.map fl).map fl = ⟨w, s, e, n⟩ :: r := by
      show _ :: (r.map fl).map fl = _
      rw [map_fl_fl]; rfl
    rw [e] at g2
    exact g2
theorem good_mill {W H w s e n x0 x1 y0 y1 : Int} {r : List Box} (a1 : w < x0) (a2 : x0 < x1) (a3 : x1 < e) (b1 : s < y0) (b2 : y0 < y1) (b3 : y1 < n) (g : Good W H (⟨w, s, e, n⟩ :: r)) :
    Good W H (⟨w, y0, x0, n⟩ :: ⟨x0, y1, e, n⟩ :: ⟨x1, s, e, y1⟩ :: ⟨w, s, x1, y0⟩ :: ⟨x0, y0, x1, y1⟩ :: r) := by
  have g1 := (good_v (c := x1) (by omega) a3).mp g
  have g2 := (good_h (c := y0) b1 (by omega)).mp g1
  have g2' := g2.perm (List.Perm.swap _ _ _)
  have g3 := (good_v (c := x0) a1 a2).mp g2'
  have g3' := g3.perm (List.Perm.swap _ _ _)
  have g4 := (good_h (c := y1) b2 b3).mp g3'
  -- M, T1, A, D, R1
  have g4' := g4.perm (List.perm_middle (l₁ := [⟨x0, y0, x1, y1⟩, ⟨x0, y1, x1, n⟩, ⟨w, y0, x0, n⟩, ⟨w, s, x1, y0⟩]) (a := ⟨x1, s, e, n⟩) (l₂ := r))
  have g5 := (good_h (c := y1) (by omega) b3).mp g4'
  -- C, T2, M, T1, A, D
  have g5' := g5.perm (List.perm_middle (l₁ := [⟨x1, s, e, y1⟩, ⟨x1, y1, e, n⟩, ⟨x0, y0, x1, y1⟩]) (a := ⟨x0, y1, x1, n⟩) (l₂ := ⟨w, y0, x0, n⟩ :: ⟨w, s, x1, y0⟩ :: r))
  -- T1, C, T2, M, A, D
  have g6 := g5'.perm ((List.Perm.swap _ _ _).cons _)
  have g7 := (good_v (c := x1) a2 a3).mpr g6
  -- B, C, M, A, D
  have g8 := g7.perm (List.perm_middle (l₁ := [⟨x0, y1, e, n⟩, ⟨x1, s, e, y1⟩, ⟨x0, y0, x1, y1⟩]) (a := ⟨w, y0, x0, n⟩) (l₂ := ⟨w, s, x1, y0⟩ :: r))
  -- A, B, C, M, D
  exact g8.perm (((List.Perm.swap _ _ _).cons _).cons _ |>.cons _)
/-! the lines of a floor, and where they are laid -/
def mp (X Y : Int → Int) (b : Box) : Box := ⟨X b.w, Y b.s, X b.e, Y b.n⟩
def Strict (X : Int → Int) (l : List Int) : Prop := ∀ a ∈ l, ∀ b ∈ l, a < b → X a < X b
structure Floor (far : Int) (lx ly : List Int) (L : List Box) : Prop where
  good : ∀ X Y : Int → Int, X 0 = 0 → Y 0 = 0 → Strict X lx → Strict Y ly → Good (X far) (Y far) (L.map (mp X Y))
  inx : ∀ b ∈ L, b.w ∈ lx ∧ b.e ∈ lx
  iny : ∀ b ∈ L, b.s ∈ ly ∧ b.n ∈ ly
  covx : ∀ x ∈ lx, ∃ b ∈ L, b.w = x ∨ b.e = x
  covy : ∀ y ∈ ly, ∃ b ∈ L, b.s = y ∨ b.n = y
  zx : 0 ∈ lx ∧ far ∈ lx
  zy : 0 ∈ ly ∧ far ∈ ly
theorem Strict.sub {X : Int → Int} {l l' : List Int} (h : Strict X l') (s : ∀ a ∈ l, a ∈ l') : Strict X l := fun a ha b hb => h a (s a ha) b (s b hb)
theorem Floor.perm {far : Int} {lx ly : List Int} {L L' : List Box} (h : L.Perm L') (f : Floor far lx ly L) : Floor far lx ly L' :=
  ⟨fun X Y a b c d => (f.good X Y a b c d).perm (h.map _), fun b hb => f.inx b (h.mem_iff.mpr hb), fun b hb => f.iny b (h.mem_iff.mpr hb),
    fun x hx => let ⟨b, hb, q⟩ := f.covx x hx; ⟨b, h.mem_iff.mp hb, q⟩, fun x hx => let ⟨b, hb, q⟩ := f.covy x hx; ⟨b, h.mem_iff.mp hb, q⟩, f.zx, f.zy⟩
theorem Floor.start {far : Int} (h : 0 < far) : Floor far [0, far] [0, far] [⟨0, 0, far, far⟩] := by
  refine ⟨fun X Y x0 y0 sx sy => ?_, fun b hb => ?_, fun b hb => ?_, fun x hx => ?_, fun x hx => ?_, ?_, ?_⟩
  · have h1 := sx 0 (by simp) far (by simp) h
    have h2 := sy 0 (by simp) far (by simp) h
    rw [x0] at h1
    rw [y0] at h2
    show Good (X far) (Y far) [⟨X 0, Y 0, X far, Y far⟩]
    rw [x0, y0]
    refine ⟨fun b hb => ?_, fun b hb => ?_, List.pairwise_singleton _ _, ?_, ?_⟩
    · obtain rfl := List.mem_singleton.mp hb; exact ⟨h1, h2⟩
    · obtain rfl := List.mem_singleton.mp hb; exact ⟨Int.le_refl _, Int.le_refl _, Int.le_refl _, Int.le_refl _⟩
    · simp only [suma, pairs, rim]; omega
    · simp only [suma, K53.area, Int.sub_zero, Int.add_zero]
  · obtain rfl := List.mem_singleton.mp hb; simp
  · obtain rfl := List.mem_singleton.mp hb; simp
  · simp at hx; exact ⟨_, List.mem_singleton.mpr rfl, hx.elim (fun e => .inl e.symm) fun e => .inr e.symm⟩
  · simp at hx; exact ⟨_, List.mem_singleton.mpr rfl, hx.elim (fun e => .inl e.symm) fun e => .inr e.symm⟩
  · simp
  · simp
theorem Floor.cutV {far w s e n c : Int} {lx ly : List Int} {r : List Box} (h1 : w < c) (h2 : c < e) (f : Floor far lx ly (⟨w, s, e, n⟩ :: r)) : Floor far (lx ++ [c]) ly (⟨w, s, c, n⟩ :: ⟨c, s, e, n⟩ :: r) := by
  have m0 := f.inx _ List.mem_cons_self
  have m1 := f.iny _ List.mem_cons_self
  have sb : ∀ a ∈ lx, a ∈ lx ++ [c] := fun a ha => List.mem_append_left _ ha
  have mc : c ∈ lx ++ [c] := List.mem_append_right _ List.mem_cons_self
  refine ⟨fun X Y x0 y0 sx sy => ?_, fun b hb => ?_, fun b hb => ?_, fun x hx => ?_, fun y hy => ?_, ⟨sb _ f.zx.1, sb _ f.zx.2⟩, f.zy⟩
  · exact (good_v (sx w (sb _ m0.1) c mc h1) (sx c mc e (sb _ m0.2) h2)).mp (f.good X Y x0 y0 (sx.sub sb) sy)
  · rcases List.mem_cons.mp hb with rfl | hb
    · exact ⟨sb _ m0.1, mc⟩
    · rcases List.mem_cons.mp hb with rfl | hb
      · exact ⟨mc, sb _ m0.2⟩
      · have := f.inx b (List.mem_cons_of_mem _ hb)
        exact ⟨sb _ this.1, sb _ this.2⟩
  · rcases List.mem_cons.mp hb with rfl | hb
    · exact m1
    · rcases List.mem_cons.mp hb with rfl | hb
      · exact m1
      · exact f.iny b (List.mem_cons_of_mem _ hb)
  · rcases List.mem_append.mp hx with hx | hx
    · obtain ⟨b, hb, q⟩ := f.covx x hx
      rcases List.mem_cons.mp hb with rfl | hb
      · rcases q with q | q
        · exact ⟨_, List.mem_cons_self, .inl q⟩
        · exact ⟨_, List.mem_cons_of_mem _ List.mem_cons_self, .inr q⟩
      · exact ⟨b, List.mem_cons_of_mem _ (List.mem_cons_of_mem _ hb), q⟩
    · obtain rfl := List.mem_singleton.mp hx
      exact ⟨_, List.mem_cons_self, .inr rfl⟩
  · obtain ⟨b, hb, q⟩ := f.covy y hy
    rcases List.mem_cons.mp hb with rfl | hb
    · exact ⟨_, List.mem_cons_self, q⟩
    · exact ⟨b, List.mem_cons_of_mem _ (List.mem_cons_of_mem _ hb), q⟩
theorem Floor.flip {far : Int} {lx ly : List Int} {L : List Box} (f : Floor far lx ly L) : Floor far ly lx (L.map fl) := by
  refine ⟨fun X Y x0 y0 sx sy => ?_, fun b hb => ?_, fun b hb => ?_, fun x hx => ?_, fun y hy => ?_, f.zy, f.zx⟩
  · have g := good_fl (f.good Y X y0 x0 sy sx)
    have e : (L.map (mp Y X)).map fl = (L.map fl).map (mp X Y) := by rw [List.map_map, List.map_map]; rfl
    rw [e] at g
    exact g
  · obtain ⟨c, hc, rfl⟩ := List.mem_map.mp hb; exact f.iny c hc
  · obtain ⟨c, hc, rfl⟩ := List.mem_map.mp hb; exact f.inx c hc
  · obtain ⟨b, hb, q⟩ := f.covy x hx; exact ⟨fl b, List.mem_map_of_mem hb, q⟩
  · obtain ⟨b, hb, q⟩ := f.covx y hy; exact ⟨fl b, List.mem_map_of_mem hb, q⟩
theorem Floor.cutH {far w s e n c : Int} {lx ly : List Int} {r : List Box} (h1 : s < c) (h2 : c < n) (f : Floor far lx ly (⟨w, s, e, n⟩ :: r)) : Floor far lx (ly ++ [c]) (⟨w, s, e, c⟩ :: ⟨w, c, e, n⟩ :: r) := by
  have g := (f.flip.cutV (w := s) (s := w) (e := n) (n := e) (r := r.map fl) h1 h2).flip
  have e : (Box.mk s w c e :: Box.mk c w n e :: r.map fl).map fl = ⟨w, s, e, c⟩ :: ⟨w, c, e, n⟩ :: r := by
    show _ :: _ :: (r.map fl).map fl = _
    rw [map_fl_fl]; rfl
  rw [e] at g
  exact g
theorem Floor.mill {far w s e n x0 x1 y0 y1 : Int} {lx ly : List Int} {r : List Box} (a1 : w < x0) (a2 : x0 < x1) (a3 : x1 < e) (b1 : s < y0) (b2 : y0 < y1) (b3 : y1 < n) (f : Floor far lx ly (⟨w, s, e, n⟩ :: r)) {lx' ly' : List Int} (hx : ∀ a, a ∈ lx' ↔ a ∈ lx ∨ a = x0 ∨ a = x1) (hy : ∀ a, a ∈ ly' ↔ a ∈ ly ∨ a = y0 ∨ a = y1) :
    Floor far lx' ly' (⟨w, y0, x0, n⟩ :: ⟨x0, y1, e, n⟩ :: ⟨x1, s, e, y1⟩ :: ⟨w, s, x1, y0⟩ :: ⟨x0, y0, x1, y1⟩ :: r) := by
  have m0 := f.inx _ List.mem_cons_self
  have m1 := f.iny _ List.mem_cons_self
  simp only at m0 m1
  have sx0 : ∀ a ∈ lx, a ∈ lx' := fun a h => (hx a).mpr (.inl h)
  have sy0 : ∀ a ∈ ly, a ∈ ly' := fun a h => (hy a).mpr (.inl h)
  have q0 : x0 ∈ lx' := (hx _).mpr (.inr (.inl rfl))
  have q1 : x1 ∈ lx' := (hx _).mpr (.inr (.inr rfl))
  have p0 : y0 ∈ ly' := (hy _).mpr (.inr (.inl rfl))
  have p1 : y1 ∈ ly' := (hy _).mpr (.inr (.inr rfl))
  have hw := sx0 _ m0.1
  have he := sx0 _ m0.2
  have hs := sy0 _ m1.1
  have hn := sy0 _ m1.2
  refine ⟨fun X Y z0 z1 sx sy => ?_, fun b hb => ?_, fun b hb => ?_, fun x hx' => ?_, fun y hy' => ?_, ⟨sx0 _ f.zx.1, sx0 _ f.zx.2⟩, ⟨sy0 _ f.zy.1, sy0 _ f.zy.2⟩⟩
  · exact good_mill (sx _ hw _ q0 a1) (sx _ q0 _ q1 a2) (sx _ q1 _ he a3) (sy _ hs _ p0 b1) (sy _ p0 _ p1 b2) (sy _ p1 _ hn b3) (f.good X Y z0 z1 (sx.sub sx0) (sy.sub sy0))
  · simp only [List.mem_cons] at hb
    rcases hb with rfl | rfl | rfl | rfl | rfl | hb
    · exact ⟨hw, q0⟩
    · exact ⟨q0, he⟩
    · exact ⟨q1, he⟩
    · exact ⟨hw, q1⟩
    · exact ⟨q0, q1⟩
    · have := f.inx b (List.mem_cons_of_mem _ hb)
      exact ⟨sx0 _ this.1, sx0 _ this.2⟩
  · simp only [List.mem_cons] at hb
    rcases hb with rfl | rfl | rfl | rfl | rfl | hb
    · exact ⟨p0, hn⟩
    · exact ⟨p1, hn⟩
    · exact ⟨hs, p1⟩
    · exact ⟨hs, p0⟩
    · exact ⟨p0, p1⟩
    · have := f.iny b (List.mem_cons_of_mem _ hb)
      exact ⟨sy0 _ this.1, sy0 _ this.2⟩
  · rcases (hx x).mp hx' with h | rfl | rfl
    · obtain ⟨b, hb, q⟩ := f.covx x h
      rcases List.mem_cons.mp hb with rfl | hb
      · rcases q with q | q
        · exact ⟨⟨w, y0, x0, n⟩, by simp, .inl q⟩
        · exact ⟨⟨x0, y1, e, n⟩, by simp, .inr q⟩
      · exact ⟨b, by simp [hb], q⟩
    · exact ⟨⟨w, y0, x, n⟩, by simp, .inr rfl⟩
    · exact ⟨⟨x, s, e, y1⟩, by simp, .inl rfl⟩
  · rcases (hy y).mp hy' with h | rfl | rfl
    · obtain ⟨b, hb, q⟩ := f.covy y h
      rcases List.mem_cons.mp hb with rfl | hb
      · rcases q with q | q
        · exact ⟨⟨x1, s, e, y1⟩, by simp, .inl q⟩
        · exact ⟨⟨w, y0, x0, n⟩, by simp, .inr q⟩
      · exact ⟨b, by simp [hb], q⟩
    · exact ⟨⟨w, y, x0, n⟩, by simp, .inl rfl⟩
    · exact ⟨⟨x0, y, e, n⟩, by simp, .inl rfl⟩
/-- the floor itself -/
theorem Floor.own {far : Int} {lx ly : List Int} {L : List Box} (f : Floor far lx ly L) : Good far far L := by
  have g := f.good id id rfl rfl (fun _ _ _ _ h => h) (fun _ _ _ _ h => h)
  have e : L.map (mp id id) = L := by
    have : mp id id = id := by funext b; rfl
    rw [this, List.map_id]
  rw [e] at g
  exact g
/-- some box is not small -/
theorem suma_small {m : Int} (hm : 0 ≤ m) : ∀ {l : List Box}, (∀ b ∈ l, area b ≤ m) → suma area l ≤ (l.length : Int) * m
  | [], _ => by simp [suma]
  | b :: r, h => by
    have h1 := h b List.mem_cons_self
    have h2 := suma_small hm (l := r) fun c hc => h c (List.mem_cons_of_mem _ hc)
    simp only [suma, List.length_cons]
    have e : (((r.length + 1 : Nat) : Int)) * m = (r.length : Int) * m + m := by
      rw [Int.natCast_add, Int.add_mul]; simp
    omega
theorem small_area {b : Box} (p : Pr b) (h : b.e - b.w + b.n - b.s ≤ 30000) : area b ≤ 900000000 := by
  unfold area
  have h1 : 0 ≤ b.e - b.w := by have := p.1; omega
  have h2 : 0 ≤ b.n - b.s := by have := p.2; omega
  have h3 : b.e - b.w ≤ 30000 := by omega
  have h4 : b.n - b.s ≤ 30000 := by omega
  have := Int.mul_le_mul h3 h4 h2 (by decide : (0 : Int) ≤ 30000)
  omega
theorem Good.great {l : List Box} (g : Good (1 * 2 ^ 28) (1 * 2 ^ 28) l) (h : l.length ≤ 40) : ∃ b ∈ l, 30000 < b.e - b.w + b.n - b.s := by
  apply Classical.byContradiction
  intro c
  have hs : ∀ b ∈ l, K53.area b ≤ 900000000 := fun b hb => small_area (g.pr b hb) (by
    apply Classical.byContradiction
    intro d
    exact c ⟨b, hb, by omega⟩)
  have q := suma_small (by decide) hs
  rw [g.area] at q
  have : (l.length : Int) ≤ 40 := by omega
  have : (l.length : Int) * 900000000 ≤ 40 * 900000000 := Int.mul_le_mul_of_nonneg_right this (by decide)
  omega
/-! counting -/
theorem nodup_len {α : Type} [DecidableEq α] : ∀ {l m : List α}, l.Nodup → (∀ a ∈ l, a ∈ m) → l.length ≤ m.length
  | [], _, _, _ => Nat.zero_le _
  | a :: r, m, hn, hs => by
    have hn' := List.nodup_cons.mp hn
    have ha := hs a List.mem_cons_self
    have ih := nodup_len (m := m.erase a) hn'.2 fun b hb => by
      have : b ≠ a := fun e => hn'.1 (e ▸ hb)
      exact (List.mem_erase_of_ne this).mpr (hs b (List.mem_cons_of_mem _ hb))
    have hl := List.length_erase_of_mem ha
    have : 0 < m.length := List.length_pos_of_mem ha
    simp only [List.length_cons]
    omega
theorem free_place (l : List Int) (lo : Int) (n : Nat) (h : l.length < n) : ∃ k, lo < k ∧ k ≤ lo + n ∧ k ∉ l := by
  apply Classical.byContradiction
  intro c
  have hall : ∀ k, lo < k → k ≤ lo + n → k ∈ l := fun k h1 h2 => by
    apply Classical.byContradiction
    intro d
    exact c ⟨k, h1, h2, d⟩
  have hnd : ((List.range n).map fun (i : Nat) => lo + 1 + (i : Int)).Nodup := by
    rw [List.Nodup, List.pairwise_map]
    exact List.nodup_range.imp fun {a b} hab e => hab (by omega)
  have q := nodup_len hnd (m := l) fun a ha => by
    obtain ⟨i, hi, rfl⟩ := List.mem_map.mp ha
    have := List.mem_range.mp hi
    exact hall _ (by omega) (by omega)
  rw [List.length_map, List.length_range] at q
  omega
end K53
end
section
open PySem PySem.Spec PyProof.Rows L2
set_option Elab.async false
set_option linter.all false
set_option maxRecDepth 100000
namespace K53
open DD
def boxD (b : Box) : D := .tup [.int b.w, .int b.s, .int b.e, .int b.n]
structure Plan where
  rooms : List Str
  wd : Int
  ht : Int
  boxes : List Box
def planD (p : Plan) : D := .tup [.tup (p.rooms.map .str), .int p.wd, .int p.ht, .tup (p.boxes.map boxD)]
structure Ok (p : Plan) : Prop where
  len : p.rooms.length = p.boxes.length
  nd : p.rooms.Nodup
  few : p.rooms.length ≤ 40
/-- room r has box b -/
def Has (p : Plan) (r : Str) (b : Box) : Prop := ∃ i : Nat, p.rooms[i]? = some r ∧ p.boxes[i]? = some b
def turn1 (p : Plan) : Plan := { p with wd := p.ht, ht := p.wd, boxes := p.boxes.map fun b => ⟨p.ht - b.n, b.w, p.ht - b.s, b.e⟩ }
def turnN : Nat → Plan → Plan
  | 0, p => p
  | n + 1, p => turnN n (turn1 p)
def mirror (p : Plan) : Plan := { p with boxes := p.boxes.map fun b => ⟨p.wd - b.e, b.s, p.wd - b.w, b.n⟩ }
def scale (k : Int) (p : Plan) : Plan := { p with wd := p.wd * k, ht := p.ht * k, boxes := p.boxes.map fun b => ⟨b.w * k, b.s * k, b.e * k, b.n * k⟩ }
def off (p : Plan) (b : Box) (side : Str) : Int := if side = "E" then p.wd - b.e else if side = "N" then p.ht - b.n else if side = "W" then b.w else b.s
/-- the changeable things but those at as are as they were -/
def Keep (as : List Addr) (μ μ' : Mu) : Prop := ∀ x m, x ∉ as → μ x = some m → μ' x = some m
structure Tiler (μ : Mu) (a l : Addr) : Prop where
  ne : a ≠ l
  ex : ∃ (ts : List Int) (g r : Int), μ a = some (.dK [(.inr "tiles", .obj l), (.inr "grout", .int g), (.inr "row", .int r)]) ∧ μ l = some (.lst (ts.map D.int)) ∧ ts.length ≤ 100
def Sml (i : Int) : Prop := -(2 ^ 60) < i ∧ i < 2 ^ 60
/-- plain data of at most this depth -/
def Plain : Nat → D → Prop
  | _, .int _ => True
  | _, .str _ => True
  | n + 1, .tup ds => ds.length ≤ 1000 ∧ ∀ d ∈ ds, Plain n d
  | _, _ => False

def S_box_table : SpD := fun ds μ Q => ∃ p, ds = [planD p] ∧ Ok p ∧ ∀ a kvs, μ a = none → (∀ r b, Has p r b → getD kvs (.inr r) = some (boxD b)) → Q (.obj a) (put μ a (.dK kvs))
def S_box_of : SpD := fun ds μ Q => ∃ p r b, ds = [planD p, .str r] ∧ Ok p ∧ Has p r b ∧ Q (boxD b) μ
def S_stretch_of : SpD := fun ds μ Q => ∃ a b, ds = [boxD a, boxD b] ∧ Q (.int (stretch a b)) μ
def S_share_of : SpD := fun ds μ Q => ∃ p r r' a b, ds = [planD p, .str r, .str r'] ∧ Ok p ∧ Has p r a ∧ Has p r' b ∧ Q (.int (stretch a b)) μ
def S_off_measure : SpD := fun ds μ Q => ∃ p r b side, ds = [planD p, .str r, .str side] ∧ Ok p ∧ Has p r b ∧ Q (.int (off p b side)) μ
inductive Size where
  | width (r : Str) (b : Box)
  | height (r : Str) (b : Box)
  | off (r : Str) (b : Box) (side : Str)
  | plotW
  | plotH
  | touch (r r' : Str) (a b : Box)
def sizeD (x y : D) : Size → D
  | .width r _ => .tup [.str "width", .str r, x, y]
  | .height r _ => .tup [.str "height", .str r, x, y]
  | .off r _ side => .tup [.str "off", .str r, .str side, x, y]
  | .plotW => .tup [.str "plot", .str "width", x, y]
  | .plotH => .tup [.str "plot", .str "height", x, y]
  | .touch r r' _ _ => .tup [.str "touch", .str r, .str r', x, y]
def sizeOk (p : Plan) : Size → Prop
  | .width r b => Has p r b
  | .height r b => Has p r b
  | .off r b _ => Has p r b
  | .plotW => True
  | .plotH => True
  | .touch r r' a b => Has p r a ∧ Has p r' b
def sizeV (p : Plan) : Size → Int
  | .width _ b => b.e - b.w
  | .height _ b => b.n - b.s
  | .off _ b side => K53.off p b side
  | .plotW => p.wd
  | .plotH => p.ht
  | .touch _ _ a b => stretch a b
def S_measure_of : SpD := fun ds μ Q => ∃ p z x y, ds = [planD p, sizeD x y z] ∧ Ok p ∧ sizeOk p z ∧ Q (.int (sizeV p z)) μ
def S_turned_plan : SpD := fun ds μ Q => ∃ p n, ds = [planD p, .int n] ∧ p.boxes.length ≤ 40 ∧ Q (planD (turnN (n % 4).toNat p)) μ
def S_mirrored_plan : SpD := fun ds μ Q => ∃ p, ds = [planD p] ∧ p.boxes.length ≤ 40 ∧ Q (planD (mirror p)) μ
def S_scaled_plan : SpD := fun ds μ Q => ∃ p k, ds = [planD p, .int k] ∧ p.boxes.length ≤ 40 ∧ Sml k ∧ Q (planD (scale k p)) μ
def S__law_tiler : SpD := fun ds μ Q => ∃ ns : List Int, ds = [.rol (ns.map .int)] ∧ ns.length ≤ 63 ∧ ∀ a l μ', Tiler μ' a l → Sub μ μ' → Q (.obj a) μ'
def S__law_tile : SpD := fun ds μ Q => ∃ a l m, ds = [.obj a, .int m] ∧ Tiler μ a l ∧ m < 2 ^ 60 ∧ ∀ v μ', Tiler μ' a l → Keep [a, l] μ μ' → 0 ≤ v → (v = 0 ∨ v < m) → Q (.int v) μ'
def S__law_cut : SpD := fun ds μ Q => ∃ a l lo hi t kvs, ds = [.obj a, .int lo, .int hi, .obj t] ∧ Tiler μ a l ∧ t ≠ a ∧ t ≠ l ∧ μ t = some (.dK kvs) ∧ (kvs.length : Int) + 2 < hi - lo ∧ hi - lo < 2 ^ 60 ∧ kvs.length < 1000 ∧
  ∀ c μ', lo < c → c < hi → getD kvs (.inl c) = none → Tiler μ' a l → Keep [a, l, t] μ μ' → μ' t = some (.dK (kvs ++ [(.inl c, .bl true)])) → Q (.int c) μ'
def far0 : Int := 1 * 2 ^ 28
def BoxesOk (L : List Box) (m : Int) : Prop := (L.length : Int) = m ∧ ∃ lx ly : List Int, lx.length ≤ L.length + 1 ∧ ly.length ≤ L.length + 1 ∧ Floor far0 lx ly L
def S__law_boxes : SpD := fun ds μ Q => ∃ a l m, ds = [.obj a, .int m] ∧ Tiler μ a l ∧ 1 ≤ m ∧ m ≤ 40 ∧
  ∀ p L μ', μ p = none → Tiler μ' a l → Keep [a, l] μ μ' → μ' p = some (.lst (L.map boxD)) → BoxesOk L m → Q (.obj p) μ'
structure Fine (p : Plan) : Prop where
  ok : Ok p
  good : Good p.wd p.ht p.boxes
  pos : 0 < p.wd ∧ 0 < p.ht
  sml : p.wd < 2 ^ 40 ∧ p.ht < 2 ^ 40
def S__law_plan : SpD := fun ds μ Q => ∃ a l m, ds = [.obj a, .int m] ∧ Tiler μ a l ∧ 1 ≤ m ∧ m ≤ 40 ∧ ∀ p μ', Tiler μ' a l → Keep [a, l] μ μ' → Fine p → p.wd < 2 ^ 20 → p.ht < 2 ^ 20 → Q (planD p) μ'
def S__law_share : SpD := fun ds μ Q => ∃ a b, ds = [boxD a, boxD b] ∧ Q (.int (lshare a b)) μ
def S__law_moved : SpD := fun ds μ Q => ∃ p m q k, ds = [planD p, .int m, .int q, .int k] ∧ p.boxes.length ≤ 40 ∧ Sml k ∧ Q (planD (scale k (turnN (q % 4).toNat (if m = 1 then mirror p else p)))) μ
def S__law_same_d (n : Nat) : SpD := fun ds μ Q => ∃ x, ds = [x, x] ∧ Plain n x ∧ Q (.bl true) μ
abbrev S__law_same : SpD := S__law_same_d 5
def S__law_told : SpD := fun ds μ Q => ∃ i, ds = [.int i, .int i] ∧ Q (.bl true) μ
def S__law_summed : SpD := fun ds μ Q => ∃ a l p few, ds = [.obj a, planD p, .bl few] ∧ Tiler μ a l ∧ Fine p ∧ ∀ μ', Tiler μ' a l → Keep [a, l] μ μ' → Q (.bl true) μ'
def S_law : SpD := fun ds μ Q => ∃ ns : List Int, ds = [.rol (ns.map .int)] ∧ ns.length ≤ 63 ∧ ∀ μ', Q (.bl true) μ'
end K53
end
section
open PySem PySem.Spec PyProof.Rows L2
set_option Elab.async false
set_option linter.all false
set_option maxRecDepth 100000
namespace K53
open DD
def N_box_of : List Str := ["plan", "room"]
def t_box_of : DS :=
  (dRet (dOp rIxD (dCB S_box_table (dCons (dVar 0) dNil)) (dVar 1)))
def N_share_of : List Str := ["plan", "one", "other", "table"]
def t_share_of : DS :=
  (dSeq (dAsg (dCB S_box_table (dCons (dVar 0) dNil)) (.nm 3))
  (dRet (dCB S_stretch_of (dCons (dOp rIxD (dVar 3) (dVar 1)) (dCons (dOp rIxD (dVar 3) (dVar 2)) dNil)))))
def N_box_table : List Str := ["plan", "room", "box"]
def t_box_table : DS :=
  (dRet (dDc (diZip (dCons (dOp rIxD (dVar 0) (dC (.int 0))) (dCons (dOp rIxD (dVar 0) (dC (.int 3))) dNil))) (.tp [1, 2]) dYes (dVar 1) (dVar 2) [1, 2]))
def N_stretch_of : List Str := ["one", "other", "across", "along"]
def t_stretch_of : DS :=
  (dSeq (dAsg (dOp rSubD (dCB rMinD (dCons (dOp rIxD (dVar 0) (dC (.int 2))) (dCons (dOp rIxD (dVar 1) (dC (.int 2))) dNil))) (dCB rMaxD (dCons (dOp rIxD (dVar 0) (dC (.int 0))) (dCons (dOp rIxD (dVar 1) (dC (.int 0))) dNil)))) (.nm 2))
  (dSeq (dAsg (dOp rSubD (dCB rMinD (dCons (dOp rIxD (dVar 0) (dC (.int 3))) (dCons (dOp rIxD (dVar 1) (dC (.int 3))) dNil))) (dCB rMaxD (dCons (dOp rIxD (dVar 0) (dC (.int 1))) (dCons (dOp rIxD (dVar 1) (dC (.int 1))) dNil)))) (.nm 3))
  (dSeq (dIf (dOrT (dTest (dOp rLtD (dVar 2) (dC (.int 0)))) (dTest (dOp rLtD (dVar 3) (dC (.int 0))))) (dRet (dC (.int 0))) dNext)
  (dRet (dCB rMaxD (dCons (dVar 2) (dCons (dVar 3) dNil)))))))
def N_off_measure : List Str := ["plan", "room", "side", "west", "south", "east", "north"]
def t_off_measure : DS :=
  (dSeq (dAsg (dCB S_box_of (dCons (dVar 0) (dCons (dVar 1) dNil))) (.tp [3, 4, 5, 6]))
  (dSeq (dIf (dTest (dOp rEqD (dVar 2) (dC (.str "E")))) (dRet (dOp rSubD (dOp rIxD (dVar 0) (dC (.int 1))) (dVar 5))) dNext)
  (dSeq (dIf (dTest (dOp rEqD (dVar 2) (dC (.str "N")))) (dRet (dOp rSubD (dOp rIxD (dVar 0) (dC (.int 2))) (dVar 6))) dNext)
  (dSeq (dIf (dTest (dOp rEqD (dVar 2) (dC (.str "W")))) (dRet (dVar 3)) dNext)
  (dRet (dVar 4))))))
def N_measure_of : List Str := ["plan", "size", "kind", "west", "south", "east", "north"]
def t_measure_of : DS :=
  (dSeq (dAsg (dOp rIxD (dVar 1) (dC (.int 0))) (.nm 2))
  (dSeq (dIf (dTest (dOp rEqD (dVar 2) (dC (.str "plot")))) (dRet (dIfE (dTest (dOp rEqD (dOp rIxD (dVar 1) (dC (.int 1))) (dC (.str "width")))) (dOp rIxD (dVar 0) (dC (.int 1))) (dOp rIxD (dVar 0) (dC (.int 2))))) dNext)
  (dSeq (dIf (dTest (dOp rEqD (dVar 2) (dC (.str "touch")))) (dRet (dCB S_share_of (dCons (dVar 0) (dCons (dOp rIxD (dVar 1) (dC (.int 1))) (dCons (dOp rIxD (dVar 1) (dC (.int 2))) dNil))))) dNext)
  (dSeq (dIf (dTest (dOp rEqD (dVar 2) (dC (.str "off")))) (dRet (dCB S_off_measure (dCons (dVar 0) (dCons (dOp rIxD (dVar 1) (dC (.int 1))) (dCons (dOp rIxD (dVar 1) (dC (.int 2))) dNil))))) dNext)
  (dSeq (dAsg (dCB S_box_of (dCons (dVar 0) (dCons (dOp rIxD (dVar 1) (dC (.int 1))) dNil))) (.tp [3, 4, 5, 6]))
  (dRet (dIfE (dTest (dOp rEqD (dVar 2) (dC (.str "width")))) (dOp rSubD (dVar 5) (dVar 3)) (dOp rSubD (dVar 6) (dVar 4)))))))))
def N_turned_plan : List Str := ["plan", "n", "rooms", "width", "height", "boxes", "_", "west", "south", "east", "north"]
def t_turned_plan : DS :=
  (dSeq (dAsg (dVar 0) (.tp [2, 3, 4, 5]))
  (dSeq (dFor (diR1 (dCons (dOp rModD (dVar 1) (dC (.int 4))) dNil)) (.nm 6) (dSeq (dAsg (dFgt (dCB rToTupD (dCons (dLc (diSeq (dVar 5)) (.tp [7, 8, 9, 10]) dYes (dTup (dCons (dOp rSubD (dVar 4) (dVar 10)) (dCons (dVar 7) (dCons (dOp rSubD (dVar 4) (dVar 8)) (dCons (dVar 9) dNil))))) [7, 8, 9, 10]) dNil))) (.nm 5))
  (dAsg (dTup (dCons (dVar 4) (dCons (dVar 3) dNil))) (.tp [3, 4]))))
  (dRet (dTup (dCons (dVar 2) (dCons (dVar 3) (dCons (dVar 4) (dCons (dVar 5) dNil))))))))
def N_mirrored_plan : List Str := ["plan", "rooms", "width", "height", "boxes", "turned", "west", "south", "east", "north"]
def t_mirrored_plan : DS :=
  (dSeq (dAsg (dVar 0) (.tp [1, 2, 3, 4]))
  (dSeq (dAsg (dLc (diSeq (dVar 4)) (.tp [6, 7, 8, 9]) dYes (dTup (dCons (dOp rSubD (dVar 2) (dVar 8)) (dCons (dVar 7) (dCons (dOp rSubD (dVar 2) (dVar 6)) (dCons (dVar 9) dNil))))) [6, 7, 8, 9]) (.nm 5))
  (dRet (dTup (dCons (dVar 1) (dCons (dVar 2) (dCons (dVar 3) (dCons (dCB rToTupD (dCons (dVar 5) dNil)) dNil))))))))
def N_scaled_plan : List Str := ["plan", "times", "rooms", "width", "height", "boxes", "grown", "box", "number"]
def t_scaled_plan : DS :=
  (dSeq (dAsg (dVar 0) (.tp [2, 3, 4, 5]))
  (dSeq (dAsg (dLc (diSeq (dVar 5)) (.nm 7) dYes (dFgt (dCB rToTupD (dCons (dLc (diSeq (dVar 7)) (.nm 8) dYes (dOp rMulD (dVar 1) (dVar 8)) [8]) dNil))) [7]) (.nm 6))
  (dRet (dTup (dCons (dVar 2) (dCons (dOp rMulD (dVar 1) (dVar 3)) (dCons (dOp rMulD (dVar 1) (dVar 4)) (dCons (dCB rToTupD (dCons (dVar 6) dNil)) dNil))))))))
def N__law_tiler : List Str := ["script", "grout", "cell"]
def t__law_tiler : DS :=
  (dSeq (dAsg (dC (.int 63029)) (.nm 1))
  (dSeq (dFor (diSeq (dSl rSlD (dVar 0) dNoP (dPart (dC (.int 57))))) (.nm 2) (dAsg (dOp rModD (dCB rToIntD (dCons (dOp rAddD (dOp rAddD (dOp rAddD (dOp rMulD (dVar 1) (dC (.int 130043))) (dOp rModD (dCB rAbsD (dCons (dCB rToIntD (dCons (dVar 2) dNil)) dNil)) (dC (.int 1000303)))) (dOp rMulD (dC (.int 17)) (dCB rToIntD (dCons (dOp rLtD (dCB rToIntD (dCons (dVar 2) dNil)) (dC (.int 0))) dNil)))) (dC (.int 27))) dNil)) (dC (.int 2147482583))) (.nm 1)))
  (dRet (dDisp [((dC (.str "tiles")), (dRev (dLc (diSeq (dSl rSlD (dVar 0) dNoP (dPart (dC (.int 37))))) (.nm 2) (dTest (dOp rGtD (dCB rAbsD (dCons (dCB rToIntD (dCons (dVar 2) dNil)) dNil)) (dOp rPowD (dC (.int 10)) (dC (.int 16))))) (dOp rModD (dCB rAbsD (dCons (dCB rToIntD (dCons (dVar 2) dNil)) dNil)) (dOp rPowD (dOp rPowD (dC (.int 10)) (dC (.int 44))) (dC (.int 9)))) [2]))), ((dC (.str "grout")), (dVar 1)), ((dC (.str "row")), (dC (.int 0)))]))))
def N__law_tile : List Str := ["tiler", "many", "number"]
def t__law_tile : DS :=
  (dSeq (dPut (dOp rAddD (dOp rIxD (dVar 0) (dC (.str "row"))) (dC (.int 1))) (dVar 0) (dC (.str "row")) rPutD)
  (dSeq (dIf (dTest (dOp rLtD (dVar 1) (dC (.int 2)))) (dRet (dC (.int 0))) dNext)
  (dSeq (dIf (dTest (dOp rGtD (dCB rLenD (dCons (dOp rIxD (dVar 0) (dC (.str "tiles"))) dNil)) (dC (.int 0)))) (dSeq (dAsg (dCB rToIntD (dCons (dBM0 "list" rPop0D (dOp rIxD (dVar 0) (dC (.str "tiles")))) dNil)) (.nm 2))
  (dSeq (dIf (dTest (dOp rGeD (dVar 2) (dVar 1))) (dDrop (dBM "list" rAppD (dOp rIxD (dVar 0) (dC (.str "tiles"))) (dCons (dOp rDivD (dVar 2) (dVar 1)) dNil))) dNext)
  (dRet (dOp rModD (dVar 2) (dVar 1))))) dNext)
  (dSeq (dPut (dOp rModD (dCB rToIntD (dCons (dOp rAddD (dOp rAddD (dOp rMulD (dOp rIxD (dVar 0) (dC (.str "grout"))) (dC (.int 69621))) (dOp rMulD (dOp rIxD (dVar 0) (dC (.str "row"))) (dC (.int 12007)))) (dC (.int 31))) dNil)) (dC (.int 2147483647))) (dVar 0) (dC (.str "grout")) rPutD)
  (dRet (dOp rModD (dCB rToIntD (dCons (dOp rDivD (dOp rIxD (dVar 0) (dC (.str "grout"))) (dC (.int 107))) dNil)) (dVar 1)))))))
def N__law_cut : List Str := ["tiler", "low", "high", "taken", "spot"]
def t__law_cut : DS :=
  (dSeq (dAsg (dOp rAddD (dOp rAddD (dVar 1) (dOp rDivD (dOp rSubD (dVar 2) (dVar 1)) (dC (.int 5)))) (dCB S__law_tile (dCons (dVar 0) (dCons (dOp rDivD (dOp rSubD (dVar 2) (dVar 1)) (dC (.int 2))) dNil)))) (.nm 4))
  (dSeq (dWhile (dOrT (dTest (dOp rInDictD (dVar 4) (dVar 3))) (dNotT (dTest (dChain rLtD rLtD (dVar 1) (dVar 4) (dVar 2))))) (dAsg (dIfE (dTest (dChain rLeD rLtD (dVar 1) (dVar 4) (dOp rSubD (dVar 2) (dC (.int 1))))) (dOp rAddD (dVar 4) (dC (.int 1))) (dOp rAddD (dVar 1) (dC (.int 1)))) (.nm 4)))
  (dSeq (dPut (dC (.bl true)) (dVar 3) (dVar 4) rPutD)
  (dRet (dVar 4)))))
def N__law_boxes : List Str := ["tiler", "many", "far", "boxes", "taken", "around", "at", "box", "wide", "high", "axis", "x", "y", "cut", "side"]
def t__law_boxes_1 : DS :=
  (dAsg (dOp rAddD (dVar 3) (dLst (dCons (dTup (dCons (dOp rIxD (dVar 7) (dC (.int 0))) (dCons (dOp rIxD (dVar 12) (dC (.int 0))) (dCons (dOp rIxD (dVar 11) (dC (.int 0))) (dCons (dOp rIxD (dVar 7) (dC (.int 3))) dNil))))) (dCons (dTup (dCons (dOp rIxD (dVar 11) (dC (.int 0))) (dCons (dOp rIxD (dVar 12) (dC (.int 1))) (dCons (dOp rIxD (dVar 7) (dC (.int 2))) (dCons (dOp rIxD (dVar 7) (dC (.int 3))) dNil))))) (dCons (dTup (dCons (dOp rIxD (dVar 11) (dC (.int 1))) (dCons (dOp rIxD (dVar 7) (dC (.int 1))) (dCons (dOp rIxD (dVar 7) (dC (.int 2))) (dCons (dOp rIxD (dVar 12) (dC (.int 1))) dNil))))) (dCons (dTup (dCons (dOp rIxD (dVar 7) (dC (.int 0))) (dCons (dOp rIxD (dVar 7) (dC (.int 1))) (dCons (dOp rIxD (dVar 11) (dC (.int 1))) (dCons (dOp rIxD (dVar 12) (dC (.int 0))) dNil))))) (dCons (dTup (dCons (dOp rIxD (dVar 11) (dC (.int 0))) (dCons (dOp rIxD (dVar 12) (dC (.int 0))) (dCons (dOp rIxD (dVar 11) (dC (.int 1))) (dCons (dOp rIxD (dVar 12) (dC (.int 1))) dNil))))) dNil))))))) (.nm 3))
def t__law_boxes_2 : DS :=
  (dSeq (dAsg (dCB rSortedD (dCons (dLc (diR1 (dCons (dC (.int 2)) dNil)) (.nm 14) dYes (dCB S__law_cut (dCons (dVar 0) (dCons (dOp rIxD (dVar 7) (dC (.int 1))) (dCons (dOp rIxD (dVar 7) (dC (.int 3))) (dCons (dOp rIxD (dVar 4) (dC (.int 1))) dNil))))) [14]) dNil)) (.nm 12))
  t__law_boxes_1)
def t__law_boxes_3 : DS :=
  (dAsg (dOp rAddD (dVar 3) (dLst (dCons (dOp rAddD (dOp rAddD (dSl rSlD (dVar 7) dNoP (dPart (dOp rAddD (dVar 10) (dC (.int 2))))) (dTup (dCons (dVar 13) dNil))) (dSl rSlD (dVar 7) (dPart (dOp rAddD (dVar 10) (dC (.int 3)))) dNoP)) (dCons (dOp rAddD (dOp rAddD (dSl rSlD (dVar 7) dNoP (dPart (dVar 10))) (dTup (dCons (dVar 13) dNil))) (dSl rSlD (dVar 7) (dPart (dOp rAddD (dVar 10) (dC (.int 1)))) dNoP)) dNil)))) (.nm 3))
def t__law_boxes_4 : DS :=
  (dIf (dAndT (dTest (dOp rGtD (dOp rSubD (dVar 1) (dCB rLenD (dCons (dVar 3) dNil))) (dC (.int 4)))) (dAndT (dTest (dOp rGtD (dCB rMinD (dCons (dVar 8) (dCons (dVar 9) dNil))) (dC (.int 9000)))) (dTest (dOp rEqD (dCB S__law_tile (dCons (dVar 0) (dCons (dC (.int 3)) dNil))) (dC (.int 0)))))) (dSeq (dAsg (dCB rSortedD (dCons (dLc (diR1 (dCons (dC (.int 2)) dNil)) (.nm 14) dYes (dCB S__law_cut (dCons (dVar 0) (dCons (dOp rIxD (dVar 7) (dC (.int 0))) (dCons (dOp rIxD (dVar 7) (dC (.int 2))) (dCons (dOp rIxD (dVar 4) (dC (.int 0))) dNil))))) [14]) dNil)) (.nm 11))
  t__law_boxes_2) (dSeq (dAsg (dCB S__law_cut (dCons (dVar 0) (dCons (dOp rIxD (dVar 7) (dVar 10)) (dCons (dOp rIxD (dVar 7) (dOp rAddD (dVar 10) (dC (.int 2)))) (dCons (dOp rIxD (dVar 4) (dVar 10)) dNil))))) (.nm 13))
  t__law_boxes_3))
def t__law_boxes_5 : DS :=
  (dSeq (dAsg (dIfE (dTest (dOp rLtD (dCB rMinD (dCons (dVar 8) (dCons (dVar 9) dNil))) (dC (.int 9000)))) (dCB rToIntD (dCons (dOp rGtD (dVar 9) (dVar 8)) dNil)) (dCB S__law_tile (dCons (dVar 0) (dCons (dC (.int 2)) dNil)))) (.nm 10))
  t__law_boxes_4)
def t__law_boxes_6 : DS :=
  (dSeq (dPar 8 9 (dCons (dOp rSubD (dOp rIxD (dVar 7) (dC (.int 2))) (dOp rIxD (dVar 7) (dC (.int 0)))) (dCons (dOp rSubD (dOp rIxD (dVar 7) (dC (.int 3))) (dOp rIxD (dVar 7) (dC (.int 1)))) dNil)))
  t__law_boxes_5)
def t__law_boxes_7 : DS :=
  (dSeq (dAsg (dBM "list" rPopID (dVar 3) (dCons (dIfE (dAndT (dTest (dOp rLtD (dVar 6) (dCB rLenD (dCons (dVar 3) dNil)))) (dTest (dOp rGtD (dOp rIxD (dVar 5) (dVar 6)) (dC (.int 30000))))) (dVar 6) (dBM "list" rIndexID (dVar 5) (dCons (dCB rMaxD (dCons (dVar 5) dNil)) dNil))) dNil)) (.nm 7))
  t__law_boxes_6)
def t__law_boxes_8 : DS :=
  (dSeq (dAsg (dCB S__law_tile (dCons (dVar 0) (dCons (dOp rMulD (dC (.int 2)) (dCB rLenD (dCons (dVar 3) dNil))) dNil))) (.nm 6))
  t__law_boxes_7)
def t__law_boxes_9 : DS :=
  (dRet (dVar 3))
def t__law_boxes_10 : DS :=
  (dSeq (dWhile (dTest (dOp rLtD (dCB rLenD (dCons (dVar 3) dNil)) (dVar 1))) (dSeq (dAsg (dLc (diSeq (dVar 3)) (.nm 7) dYes (dOp rSubD (dOp rAddD (dOp rSubD (dOp rIxD (dVar 7) (dC (.int 2))) (dOp rIxD (dVar 7) (dC (.int 0)))) (dOp rIxD (dVar 7) (dC (.int 3)))) (dOp rIxD (dVar 7) (dC (.int 1)))) [7]) (.nm 5))
  t__law_boxes_8))
  t__law_boxes_9)
def t__law_boxes_11 : DS :=
  (dSeq (dAsg (dTup (dCons (dLst (dCons (dTup (dCons (dC (.int 0)) (dCons (dC (.int 0)) (dCons (dVar 2) (dCons (dVar 2) dNil))))) dNil)) (dCons (dTup (dCons (dDisp [((dC (.int 0)), (dC (.bl true))), ((dVar 2), (dC (.bl true)))]) (dCons (dDisp [((dC (.int 0)), (dC (.bl true))), ((dVar 2), (dC (.bl true)))]) dNil))) dNil))) (.tp [3, 4]))
  t__law_boxes_10)
def t__law_boxes : DS :=
  (dSeq (dAsg (dOp rShlD (dC (.int 1)) (dC (.int 28))) (.nm 2))
  t__law_boxes_11)
def N__law_plan : List Str := ["tiler", "many", "boxes", "names", "places", "gap", "axis", "row", "far", "line", "at", "told", "name", "box"]
def t__law_plan_1 : DS :=
  (dAsg (dOp rAddD (dOp rAddD (dVar 8) (dC (.int 1))) (dCB S__law_tile (dCons (dVar 0) (dCons (dVar 5) dNil)))) (.nm 8))
def t__law_plan_2 : DS :=
  (dDrop (dBM "list" rAppD (dVar 4) (dCons (dVar 7) dNil)))
def t__law_plan_3 : DS :=
  (dSeq (dFor (diSeq (dCB rSortedD (dCons (dCB rToDictD (dCons (dOp rAddD (dLc (diSeq (dVar 2)) (.nm 13) dYes (dTup (dCons (dOp rIxD (dVar 13) (dVar 6)) (dCons (dC (.bl true)) dNil))) [13]) (dLc (diSeq (dVar 2)) (.nm 13) dYes (dTup (dCons (dOp rIxD (dVar 13) (dOp rAddD (dVar 6) (dC (.int 2)))) (dCons (dC (.bl true)) dNil))) [13])) dNil)) dNil))) (.nm 9) (dSeq (dPut (dVar 8) (dVar 7) (dVar 9) rPutD)
  t__law_plan_1))
  t__law_plan_2)
def t__law_plan_4 : DS :=
  (dDrop (dBM "list" rAppD (dVar 11) (dCons (dTup (dCons (dOp rIxD (dOp rIxD (dVar 4) (dC (.int 0))) (dOp rIxD (dVar 13) (dC (.int 0)))) (dCons (dOp rIxD (dOp rIxD (dVar 4) (dC (.int 1))) (dOp rIxD (dVar 13) (dC (.int 1)))) (dCons (dOp rIxD (dOp rIxD (dVar 4) (dC (.int 0))) (dOp rIxD (dVar 13) (dC (.int 2)))) (dCons (dOp rIxD (dOp rIxD (dVar 4) (dC (.int 1))) (dOp rIxD (dVar 13) (dC (.int 3)))) dNil))))) dNil)))
def t__law_plan_5 : DS :=
  (dRet (dTup (dCons (dFgt (dCB rToTupD (dCons (dCB rSortedD (dCons (dVar 3) dNil)) dNil))) (dCons (dMaxVals (dOp rIxD (dVar 4) (dC (.int 0)))) (dCons (dMaxVals (dOp rIxD (dVar 4) (dC (.int 1)))) (dCons (dCB rToTupD (dCons (dVar 11) dNil)) dNil))))))
def t__law_plan_6 : DS :=
  (dSeq (dFor (diSeq (dVar 3)) (.nm 12) (dSeq (dAsg (dBM "list" rPopID (dVar 2) (dCons (dCB S__law_tile (dCons (dVar 0) (dCons (dCB rLenD (dCons (dVar 2) dNil)) dNil))) dNil)) (.nm 13))
  t__law_plan_4))
  t__law_plan_5)
def t__law_plan_7 : DS :=
  (dSeq (dAsg (dLst dNil) (.nm 11))
  t__law_plan_6)
def t__law_plan_8 : DS :=
  (dSeq (dFor (diR1 (dCons (dVar 1) dNil)) (.nm 10) (dDrop (dBM "list" rAppD (dVar 3) (dCons (dOp rAddD (dOp rAddD (dOp rIxD (dC (.str "aghkmrtz")) (dCB S__law_tile (dCons (dVar 0) (dCons (dC (.int 8)) dNil)))) (dOp rIxD (dTup (dCons (dC (.str "")) (dCons (dC (.str "stair")) (dCons (dC (.str "j")) dNil)))) (dCB S__law_tile (dCons (dVar 0) (dCons (dC (.int 3)) dNil))))) (dCB rToStrD (dCons (dVar 10) dNil))) dNil))))
  t__law_plan_7)
def t__law_plan_9 : DS :=
  (dSeq (dFor (diR1 (dCons (dC (.int 2)) dNil)) (.nm 6) (dSeq (dPar 7 8 (dCons dNewD (dCons (dC (.int 0)) dNil)))
  t__law_plan_3))
  t__law_plan_8)
def t__law_plan_10 : DS :=
  (dSeq (dAsg (dOp rIxD (dTup (dCons (dC (.int 1)) (dCons (dC (.int 3)) (dCons (dC (.int 60)) (dCons (dC (.int 240)) dNil))))) (dCB S__law_tile (dCons (dVar 0) (dCons (dC (.int 4)) dNil)))) (.nm 5))
  t__law_plan_9)
def t__law_plan : DS :=
  (dSeq (dPar3 2 3 4 (dCons (dCB S__law_boxes (dCons (dVar 0) (dCons (dVar 1) dNil))) (dCons (dLst dNil) (dCons (dLst dNil) dNil))))
  t__law_plan_10)
def N__law_share : List Str := ["one", "other", "wide", "high"]
def t__law_share : DS :=
  (dSeq (dAsg (dOp rSubD (dCB rMinD (dCons (dOp rIxD (dVar 0) (dC (.int 2))) (dCons (dOp rIxD (dVar 1) (dC (.int 2))) dNil))) (dCB rMaxD (dCons (dOp rIxD (dVar 0) (dC (.int 0))) (dCons (dOp rIxD (dVar 1) (dC (.int 0))) dNil)))) (.nm 2))
  (dSeq (dAsg (dOp rSubD (dCB rMinD (dCons (dOp rIxD (dVar 0) (dC (.int 3))) (dCons (dOp rIxD (dVar 1) (dC (.int 3))) dNil))) (dCB rMaxD (dCons (dOp rIxD (dVar 0) (dC (.int 1))) (dCons (dOp rIxD (dVar 1) (dC (.int 1))) dNil)))) (.nm 3))
  (dRet (dIfE (dTest (dOp rEqD (dCB rMinD (dCons (dVar 2) (dCons (dVar 3) dNil))) (dC (.int 0)))) (dCB rMaxD (dCons (dC (.int 0)) (dCons (dCB rMaxD (dCons (dVar 2) (dCons (dVar 3) dNil))) dNil))) (dC (.int 0))))))
def N__law_moved : List Str := ["plan", "mirrored", "quarters", "times", "rooms", "width", "height", "boxes", "lap", "west", "south", "east", "north", "box", "part"]
def t__law_moved_1 : DS :=
  (dAsg (dTup (dCons (dVar 6) (dCons (dVar 5) dNil))) (.tp [5, 6]))
def t__law_moved_2 : DS :=
  (dRet (dTup (dCons (dVar 4) (dCons (dOp rMulD (dVar 5) (dVar 3)) (dCons (dOp rMulD (dVar 6) (dVar 3)) (dCons (dFgt (dCB rToTupD (dCons (dLc (diSeq (dVar 7)) (.nm 13) dYes (dFgt (dCB rToTupD (dCons (dLc (diSeq (dVar 13)) (.nm 14) dYes (dOp rMulD (dVar 14) (dVar 3)) [14]) dNil))) [13]) dNil))) dNil))))))
def t__law_moved_3 : DS :=
  (dSeq (dFor (diR1 (dCons (dOp rModD (dCB rToIntD (dCons (dVar 2) dNil)) (dC (.int 4))) dNil)) (.nm 8) (dSeq (dAsg (dFgt (dCB rToTupD (dCons (dLc (diSeq (dVar 7)) (.tp [9, 10, 11, 12]) dYes (dTup (dCons (dOp rSubD (dVar 6) (dVar 12)) (dCons (dVar 9) (dCons (dOp rSubD (dVar 6) (dVar 10)) (dCons (dVar 11) dNil))))) [9, 10, 11, 12]) dNil))) (.nm 7))
  t__law_moved_1))
  t__law_moved_2)
def t__law_moved_4 : DS :=
  (dSeq (dIf (dTest (dOp rEqD (dVar 1) (dC (.int 1)))) (dAsg (dFgt (dCB rToTupD (dCons (dLc (diSeq (dVar 7)) (.tp [9, 10, 11, 12]) dYes (dTup (dCons (dOp rSubD (dVar 5) (dVar 11)) (dCons (dVar 10) (dCons (dOp rSubD (dVar 5) (dVar 9)) (dCons (dVar 12) dNil))))) [9, 10, 11, 12]) dNil))) (.nm 7)) dNext)
  t__law_moved_3)
def t__law_moved : DS :=
  (dSeq (dAsg (dVar 0) (.tp [4, 5, 6, 7]))
  t__law_moved_4)
def N__law_same : List Str := ["told", "due", "at"]
def t__law_same (S__law_same : SpD) : DS :=
  (dSeq (dIf (dTest (dCB rIsiD (dCons (dVar 1) (dCons (dC (.ty "tuple")) dNil)))) (dRet (dAnd (dCB rIsiD (dCons (dVar 0) (dCons (dC (.ty "tuple")) dNil))) (dAnd (dOp rEqD (dCB rLenD (dCons (dVar 0) dNil)) (dCB rLenD (dCons (dVar 1) dNil))) (dOp rEqD (dFgt (dCB rLenD (dCons (dLc (diR1 (dCons (dCB rLenD (dCons (dVar 1) dNil)) dNil)) (.nm 2) (dNotT (dTest (dCB S__law_same (dCons (dOp rIxD (dVar 0) (dVar 2)) (dCons (dOp rIxD (dVar 1) (dVar 2)) dNil))))) (dC (.int 1)) [2]) dNil))) (dC (.int 0)))))) dNext)
  (dSeq (dIf (dTest (dCB rIsiD (dCons (dVar 1) (dCons (dC (.ty "str")) dNil)))) (dRet (dAnd (dCB rIsiD (dCons (dVar 0) (dCons (dC (.ty "str")) dNil))) (dOp rEqD (dVar 0) (dVar 1)))) dNext)
  (dRet (dAnd (dCB rIsiD (dCons (dVar 0) (dCons (dC (.ty "int")) dNil))) (dAnd (dNot (dCB rIsiD (dCons (dVar 0) (dCons (dC (.ty "bool")) dNil)))) (dOp rEqD (dVar 0) (dVar 1)))))))
def N__law_told : List Str := ["number", "due"]
def t__law_told : DS :=
  (dRet (dAnd (dCB rIsiD (dCons (dVar 0) (dCons (dC (.ty "int")) dNil))) (dAnd (dNot (dCB rIsiD (dCons (dVar 0) (dCons (dC (.ty "bool")) dNil)))) (dOp rEqD (dVar 0) (dVar 1)))))
def N__law_summed : List Str := ["tiler", "plan", "few", "rooms", "width", "height", "boxes", "rims", "areas", "at", "west", "south", "east", "north", "room", "ends", "wide", "high", "offs", "shares", "other", "due", "told", "side"]
def t__law_summed_1 : DS :=
  (dIf (dOrT (dTest (dOp rNeD (dOp rAddD (dOp rAddD (dOp rIxD (dVar 18) (dC (.int 0))) (dVar 16)) (dOp rIxD (dVar 18) (dC (.int 2)))) (dCB S_measure_of (dCons (dVar 1) (dCons (dOp rAddD (dTup (dCons (dC (.str "plot")) (dCons (dC (.str "width")) dNil))) (dVar 15)) dNil))))) (dTest (dOp rNeD (dOp rAddD (dOp rAddD (dOp rIxD (dVar 18) (dC (.int 1))) (dVar 17)) (dOp rIxD (dVar 18) (dC (.int 3)))) (dCB S_measure_of (dCons (dVar 1) (dCons (dOp rAddD (dTup (dCons (dC (.str "plot")) (dCons (dC (.str "height")) dNil))) (dVar 15)) dNil)))))) (dRet (dC (.bl false))) dNext)
def t__law_summed_2 : DS :=
  (dSeq (dIf (dNotT (dTest (dCB S__law_same (dCons (dCB rToTupD (dCons (dVar 18) dNil)) (dCons (dTup (dCons (dOp rSubD (dVar 4) (dVar 12)) (dCons (dOp rSubD (dVar 5) (dVar 13)) (dCons (dVar 10) (dCons (dVar 11) dNil))))) dNil))))) (dRet (dC (.bl false))) dNext)
  t__law_summed_1)
def t__law_summed_3 : DS :=
  (dIf (dOrT (dNotT (dTest (dVar 2))) (dTest (dOp rEqD (dCB S__law_tile (dCons (dVar 0) (dCons (dC (.int 5)) dNil))) (dC (.int 0))))) (dSeq (dAsg (dLc (diSeq (dTup (dCons (dC (.str "E")) (dCons (dC (.str "N")) (dCons (dC (.str "W")) (dCons (dC (.str "S")) dNil)))))) (.nm 23) dYes (dCB S_measure_of (dCons (dVar 1) (dCons (dOp rAddD (dTup (dCons (dC (.str "off")) (dCons (dVar 14) (dCons (dVar 23) dNil)))) (dVar 15)) dNil))) [23]) (.nm 18))
  t__law_summed_2) dNext)
def t__law_summed_4 : DS :=
  (dSeq (dPar 7 8 (dCons (dOp rAddD (dVar 7) (dOp rMulD (dC (.int 2)) (dOp rAddD (dVar 16) (dVar 17)))) (dCons (dOp rAddD (dVar 8) (dOp rMulD (dVar 16) (dVar 17))) dNil)))
  t__law_summed_3)
def t__law_summed_5 : DS :=
  (dSeq (dIf (dOrT (dNotT (dTest (dCB S__law_told (dCons (dVar 16) (dCons (dOp rSubD (dVar 12) (dVar 10)) dNil))))) (dOrT (dNotT (dTest (dCB S__law_told (dCons (dVar 17) (dCons (dOp rSubD (dVar 13) (dVar 11)) dNil))))) (dNotT (dTest (dCB S__law_same (dCons (dCB S_box_of (dCons (dVar 1) (dCons (dVar 14) dNil))) (dCons (dOp rIxD (dVar 6) (dVar 9)) dNil))))))) (dRet (dC (.bl false))) dNext)
  t__law_summed_4)
def t__law_summed_6 : DS :=
  (dSeq (dPar 16 17 (dCons (dCB S_measure_of (dCons (dVar 1) (dCons (dOp rAddD (dTup (dCons (dC (.str "width")) (dCons (dVar 14) dNil))) (dVar 15)) dNil))) (dCons (dCB S_measure_of (dCons (dVar 1) (dCons (dOp rAddD (dTup (dCons (dC (.str "height")) (dCons (dVar 14) dNil))) (dVar 15)) dNil))) dNil)))
  t__law_summed_5)
def t__law_summed_7 : DS :=
  (dSeq (dAsg (dTup (dCons (dOp rIxD (dVar 3) (dVar 9)) (dCons (dTup (dCons (dCB S__law_tile (dCons (dVar 0) (dCons (dC (.int 9)) dNil))) (dCons (dOp rIxD (dTup (dCons (dC .non) (dCons (dC (.int 9999)) dNil))) (dCB S__law_tile (dCons (dVar 0) (dCons (dC (.int 2)) dNil)))) dNil))) dNil))) (.tp [14, 15]))
  t__law_summed_6)
def t__law_summed_8 : DS :=
  (dAsg (dOp rAddD (dVar 19) (dVar 22)) (.nm 19))
def t__law_summed_9 : DS :=
  (dSeq (dIf (dOrT (dNotT (dTest (dCB S__law_told (dCons (dVar 22) (dCons (dVar 21) dNil))))) (dAndT (dTest (dOp rGtD (dVar 21) (dC (.int 0)))) (dNotT (dTest (dCB S__law_told (dCons (dCB S_measure_of (dCons (dVar 1) (dCons (dTup (dCons (dC (.str "touch")) (dCons (dOp rIxD (dVar 3) (dVar 9)) (dCons (dOp rIxD (dVar 3) (dVar 20)) (dCons (dC (.int 0)) (dCons (dC .non) dNil)))))) dNil))) (dCons (dVar 21) dNil))))))) (dRet (dC (.bl false))) dNext)
  t__law_summed_8)
def t__law_summed_10 : DS :=
  (dIf (dOrT (dTest (dOp rGtD (dVar 21) (dC (.int 0)))) (dTest (dOp rEqD (dCB S__law_tile (dCons (dVar 0) (dCons (dC (.int 40)) dNil))) (dC (.int 0))))) (dSeq (dAsg (dIfE (dTest (dOp rEqD (dCB S__law_tile (dCons (dVar 0) (dCons (dC (.int 2)) dNil))) (dC (.int 0)))) (dCB S_share_of (dCons (dVar 1) (dCons (dOp rIxD (dVar 3) (dVar 9)) (dCons (dOp rIxD (dVar 3) (dVar 20)) dNil)))) (dCB S_share_of (dCons (dVar 1) (dCons (dOp rIxD (dVar 3) (dVar 20)) (dCons (dOp rIxD (dVar 3) (dVar 9)) dNil))))) (.nm 22))
  t__law_summed_9) dNext)
def t__law_summed_11 : DS :=
  (dRet (dAnd (dOp rEqD (dVar 7) (dOp rAddD (dOp rMulD (dC (.int 2)) (dVar 19)) (dOp rMulD (dC (.int 2)) (dOp rAddD (dVar 4) (dVar 5))))) (dOp rEqD (dVar 8) (dOp rMulD (dVar 4) (dVar 5)))))
def t__law_summed_12 : DS :=
  (dSeq (dFor (diR1 (dCons (dCB rLenD (dCons (dVar 3) dNil)) dNil)) (.nm 9) (dFor (diR2 (dCons (dOp rAddD (dVar 9) (dC (.int 1))) (dCons (dCB rLenD (dCons (dVar 3) dNil)) dNil))) (.nm 20) (dSeq (dAsg (dCB S__law_share (dCons (dOp rIxD (dVar 6) (dVar 9)) (dCons (dOp rIxD (dVar 6) (dVar 20)) dNil))) (.nm 21))
  t__law_summed_10)))
  t__law_summed_11)
def t__law_summed_13 : DS :=
  (dSeq (dAsg (dC (.int 0)) (.nm 19))
  t__law_summed_12)
def t__law_summed_14 : DS :=
  (dSeq (dFor (diR1 (dCons (dCB rLenD (dCons (dVar 3) dNil)) dNil)) (.nm 9) (dSeq (dAsg (dOp rIxD (dVar 6) (dVar 9)) (.tp [10, 11, 12, 13]))
  t__law_summed_7))
  t__law_summed_13)
def t__law_summed_15 : DS :=
  (dSeq (dAsg (dTup (dCons (dC (.int 0)) (dCons (dC (.int 0)) dNil))) (.tp [7, 8]))
  t__law_summed_14)
def t__law_summed : DS :=
  (dSeq (dAsg (dVar 1) (.tp [3, 4, 5, 6]))
  t__law_summed_15)
def N_law : List Str := ["script", "tiler", "many", "plan", "turn", "times", "dues", "moved"]
def t_law_1 : DS :=
  (dRet (dCB S__law_summed (dCons (dVar 1) (dCons (dVar 7) (dCons (dC (.bl true)) dNil)))))
def t_law_2 : DS :=
  (dSeq (dIf (dNotT (dTest (dCB S__law_same (dCons (dCB S_scaled_plan (dCons (dCB S_turned_plan (dCons (dCB S_mirrored_plan (dCons (dVar 3) dNil)) (dCons (dVar 4) dNil))) (dCons (dVar 5) dNil))) (dCons (dCB S__law_moved (dCons (dCB S__law_moved (dCons (dVar 3) (dCons (dC (.int 1)) (dCons (dC (.int 0)) (dCons (dC (.int 1)) dNil))))) (dCons (dC (.int 0)) (dCons (dVar 4) (dCons (dVar 5) dNil))))) dNil))))) (dRet (dC (.bl false))) dNext)
  t_law_1)
def t_law_3 : DS :=
  (dSeq (dAsg (dOp rIxD (dLst (dCons (dOp rIxD (dVar 6) (dC (.int 0))) (dCons (dOp rIxD (dVar 6) (dC (.int 1))) (dCons (dOp rIxD (dVar 6) (dC (.int 2))) (dCons (dCB S__law_moved (dCons (dCB S__law_moved (dCons (dVar 3) (dCons (dC (.int 1)) (dCons (dC (.int 0)) (dCons (dC (.int 1)) dNil))))) (dCons (dC (.int 0)) (dCons (dVar 4) (dCons (dVar 5) dNil))))) dNil))))) (dCB S__law_tile (dCons (dVar 1) (dCons (dC (.int 4)) dNil)))) (.nm 7))
  t_law_2)
def t_law_4 : DS :=
  (dSeq (dIf (dNotT (dTest (dCB S__law_same (dCons (dTup (dCons (dCB S_turned_plan (dCons (dVar 3) (dCons (dVar 4) dNil))) (dCons (dCB S_mirrored_plan (dCons (dVar 3) dNil)) (dCons (dCB S_scaled_plan (dCons (dVar 3) (dCons (dVar 5) dNil))) dNil)))) (dCons (dCB rToTupD (dCons (dVar 6) dNil)) dNil))))) (dRet (dC (.bl false))) dNext)
  t_law_3)
def t_law_5 : DS :=
  (dSeq (dAsg (dLst (dCons (dCB S__law_moved (dCons (dVar 3) (dCons (dC (.int 0)) (dCons (dVar 4) (dCons (dC (.int 1)) dNil))))) (dCons (dCB S__law_moved (dCons (dVar 3) (dCons (dC (.int 1)) (dCons (dC (.int 0)) (dCons (dC (.int 1)) dNil))))) (dCons (dCB S__law_moved (dCons (dVar 3) (dCons (dC (.int 0)) (dCons (dC (.int 0)) (dCons (dVar 5) dNil))))) dNil)))) (.nm 6))
  t_law_4)
def t_law_6 : DS :=
  (dSeq (dAsg (dOp rAddD (dC (.int 1)) (dCB S__law_tile (dCons (dVar 1) (dCons (dCB rMinD (dCons (dC (.int 40)) (dCons (dOp rDivD (dC (.int 10000)) (dCB rMaxD (dCons (dOp rIxD (dVar 3) (dC (.int 1))) (dCons (dOp rIxD (dVar 3) (dC (.int 2))) dNil)))) dNil))) dNil)))) (.nm 5))
  t_law_5)
def t_law_7 : DS :=
  (dSeq (dAsg (dOp rIxD (dTup (dCons (dOp rSubD (dCB S__law_tile (dCons (dVar 1) (dCons (dC (.int 9)) dNil))) (dC (.int 4))) (dCons (dOp rSubD (dCB S__law_tile (dCons (dVar 1) (dCons (dC (.int 2001)) dNil))) (dC (.int 1000))) dNil))) (dCB S__law_tile (dCons (dVar 1) (dCons (dC (.int 2)) dNil)))) (.nm 4))
  t_law_6)
def t_law_8 : DS :=
  (dSeq (dIf (dNotT (dTest (dCB S__law_summed (dCons (dVar 1) (dCons (dVar 3) (dCons (dOp rGtD (dVar 2) (dC (.int 9))) dNil)))))) (dRet (dC (.bl false))) dNext)
  t_law_7)
def t_law_9 : DS :=
  (dSeq (dAsg (dCB S__law_plan (dCons (dVar 1) (dCons (dVar 2) dNil))) (.nm 3))
  t_law_8)
def t_law_10 : DS :=
  (dSeq (dAsg (dOp rIxD (dTup (dCons (dOp rAddD (dC (.int 1)) (dCB S__law_tile (dCons (dVar 1) (dCons (dC (.int 5)) dNil)))) (dCons (dOp rAddD (dC (.int 6)) (dCB S__law_tile (dCons (dVar 1) (dCons (dC (.int 8)) dNil)))) (dCons (dOp rAddD (dC (.int 14)) (dCB S__law_tile (dCons (dVar 1) (dCons (dC (.int 27)) dNil)))) dNil)))) (dCB S__law_tile (dCons (dVar 1) (dCons (dC (.int 3)) dNil)))) (.nm 2))
  t_law_9)
def t_law : DS :=
  (dSeq (dAsg (dCB S__law_tiler (dCons (dVar 0) dNil)) (.nm 1))
  t_law_10)
end K53
end
section
open PySem PySem.Spec PyProof.Rows L2
set_option Elab.async false
set_option linter.all false
set_option maxRecDepth 100000
namespace K53
open DD
local macro_rules | `(tactic| walk_at "dd") => `(tactic| simp only [ev_seq, ev_next, ev_drop, ev_ret, ev_if, ev_asg, ev_bnm, ev_btp, ev_sac, ev_san, ev_par, ev_par3, ev_put, ev_yes, ev_rev, ev_newD, ev_var, ev_C, ev_op, ev_test, ev_chain, ev_andT, ev_orT, ev_notT, ev_and, ev_or, ev_not, ev_ifE, ev_nil, ev_cons, ev_tup, ev_lst, ev_un, ev_cb, ev_bm0, ev_bm, ev_sl, ev_noP, ev_part, ev_fgt, asB_bl, asI_int, asT_tup, as1_one, as2_two, rInt_ii, rInt0_ii, rAdd_ii, rAdd_tt, rEq_ii, rEq_ss, rNe_ii, rNeg_i, rIx_t, rLen_t, rAbs_i, rToInt_i, rToInt_b, rMax_ii, rMin_ii, rToTup_t, at0, at1, at2, at3, dwipe, List.getElem?_cons_zero, List.getElem?_cons_succ, Option.getD_some, List.set_cons_zero, List.set_cons_succ, List.length_cons, List.length_nil, decide_eq_true_eq, if_true, if_false, ite_true, ite_false, Bool.false_eq_true, reduceIte, Bool.not_true, Bool.not_false, and_true, true_and])
abbrev En (Q : DK) : DEnds := { nx := fun _ μ' => Fgt μ' (Q .non), rt := fun d μ' => Fgt μ' (Q d) }
theorem rd_stretch_of (ds : List D) (μ : Mu) (Q : DK) (h : S_stretch_of ds μ Q) : t_stretch_of (En Q) (dstart N_stretch_of ds) μ := by
  obtain ⟨a, b, rfl, q⟩ := h
  show t_stretch_of _ [some (boxD a), some (boxD b), none, none] μ
  unfold t_stretch_of boxD
  walk_at "dd"
  unfold stretch at q
  refine ite2 (fun c => ?_) (fun c => ite2 (fun c' => ?_) (fun c' => ?_))
  · rw [if_pos (.inl c)] at q; exact fgt_self q
  · rw [if_pos (.inr c')] at q; exact fgt_self q
  · rw [if_neg (by omega)] at q; exact fgt_self q
theorem rd__law_share (ds : List D) (μ : Mu) (Q : DK) (h : S__law_share ds μ Q) : t__law_share (En Q) (dstart N__law_share ds) μ := by
  obtain ⟨a, b, rfl, q⟩ := h
  show t__law_share _ [some (boxD a), some (boxD b), none, none] μ
  unfold t__law_share boxD
  walk_at "dd"
  unfold lshare at q
  refine ite2 (fun c => ?_) (fun c => ?_)
  · rw [if_pos c] at q; exact fgt_self q
  · rw [if_neg c] at q; exact fgt_self q
theorem isi_ii (i : Int) (μ : Mu) (Q : DK) : rIsiD [.int i, .ty "int"] μ Q = Q (.bl true) μ := rfl
theorem isi_ib (i : Int) (μ : Mu) (Q : DK) : rIsiD [.int i, .ty "bool"] μ Q = Q (.bl false) μ := rfl
theorem isi_it (i : Int) (μ : Mu) (Q : DK) : rIsiD [.int i, .ty "tuple"] μ Q = Q (.bl false) μ := rfl
theorem isi_is (i : Int) (μ : Mu) (Q : DK) : rIsiD [.int i, .ty "str"] μ Q = Q (.bl false) μ := rfl
theorem isi_ss (i : Str) (μ : Mu) (Q : DK) : rIsiD [.str i, .ty "str"] μ Q = Q (.bl true) μ := rfl
theorem isi_st (i : Str) (μ : Mu) (Q : DK) : rIsiD [.str i, .ty "tuple"] μ Q = Q (.bl false) μ := rfl
theorem isi_tt (i : List D) (μ : Mu) (Q : DK) : rIsiD [.tup i, .ty "tuple"] μ Q = Q (.bl true) μ := rfl
theorem rd__law_told (ds : List D) (μ : Mu) (Q : DK) (h : S__law_told ds μ Q) : t__law_told (En Q) (dstart N__law_told ds) μ := by
  obtain ⟨i, rfl, q⟩ := h
  show t__law_told _ [some (.int i), some (.int i)] μ
  unfold t__law_told
  walk_at "dd"
  simp only [isi_ii, isi_ib, asB_bl, Bool.not_false, if_true, rEq_ii, decide_true]
  exact fgt_self q
theorem rd_box_of (ds : List D) (μ : Mu) (Q : DK) (h : S_box_of ds μ Q) : t_box_of (En Q) (dstart N_box_of ds) μ := by
  obtain ⟨p, r, b, rfl, ok, hb, q⟩ := h
  show t_box_of _ [some (planD p), some (.str r)] μ
  unfold t_box_of
  walk_at "dd"
  refine ⟨p, rfl, ok, fun a kvs ha hk => ?_⟩
  refine (rIx_ds put_same _ _).mpr ?_
  rw [hk r b hb]
  exact fgt_of (Sub.new ha) q
theorem rd_share_of (ds : List D) (μ : Mu) (Q : DK) (h : S_share_of ds μ Q) : t_share_of (En Q) (dstart N_share_of ds) μ := by
  obtain ⟨p, r, r', a, b, rfl, ok, ha, hb, q⟩ := h
  show t_share_of _ [some (planD p), some (.str r), some (.str r'), none] μ
  unfold t_share_of
  walk_at "dd"
  refine ⟨p, rfl, ok, fun t kvs ht hk => ?_⟩
  walk_at "dd"
  rw [rIx_ds put_same, hk r a ha]
  show rIxD (.obj t) (.str r') _ _
  rw [rIx_ds put_same, hk r' b hb]
  exact ⟨a, b, rfl, fgt_of (Sub.new ht) q⟩
theorem rd_off_measure (ds : List D) (μ : Mu) (Q : DK) (h : S_off_measure ds μ Q) : t_off_measure (En Q) (dstart N_off_measure ds) μ := by
  obtain ⟨p, r, b, side, rfl, ok, hb, q⟩ := h
  show t_off_measure _ [some (planD p), some (.str r), some (.str side), none, none, none, none] μ
  unfold t_off_measure
  walk_at "dd"
  refine ⟨p, r, b, rfl, ok, hb, ?_⟩
  unfold boxD planD
  walk_at "dd"
  unfold off at q
  refine ite2 (fun c => ?_) (fun c => ite2 (fun c' => ?_) (fun c' => ite2 (fun c2 => ?_) (fun c2 => ?_)))
  · rw [if_pos c] at q; exact fgt_self q
  · rw [if_neg c, if_pos c'] at q; exact fgt_self q
  · rw [if_neg c, if_neg c', if_pos c2] at q; exact fgt_self q
  · rw [if_neg c, if_neg c', if_neg c2] at q; exact fgt_self q
theorem rd_measure_of (ds : List D) (μ : Mu) (Q : DK) (h : S_measure_of ds μ Q) : t_measure_of (En Q) (dstart N_measure_of ds) μ := by
  obtain ⟨p, z, x, y, rfl, ok, hz, q⟩ := h
  show t_measure_of _ [some (planD p), some (sizeD x y z), none, none, none, none, none] μ
  unfold t_measure_of
  cases z with
  | width r b =>
    unfold sizeD
    walk_at "dd"
    rw [if_neg (by decide), if_neg (by decide), if_neg (by decide)]
    refine ⟨p, r, b, rfl, ok, hz, ?_⟩
    unfold boxD
    walk_at "dd"
    exact fgt_self q
  | height r b =>
    unfold sizeD
    walk_at "dd"
    rw [if_neg (by decide), if_neg (by decide), if_neg (by decide)]
    refine ⟨p, r, b, rfl, ok, hz, ?_⟩
    unfold boxD
    walk_at "dd"
    rw [if_neg (by decide)]
    exact fgt_self q
  | off r b side =>
    unfold sizeD
    walk_at "dd"
    rw [if_neg (by decide), if_neg (by decide)]
    exact ⟨p, r, b, side, rfl, ok, hz, fgt_self q⟩
  | plotW =>
    unfold sizeD planD
    walk_at "dd"
    exact fgt_self q
  | plotH =>
    unfold sizeD planD
    walk_at "dd"
    rw [if_neg (by decide)]
    exact fgt_self q
  | touch r r' a b =>
    unfold sizeD
    walk_at "dd"
    rw [if_neg (by decide)]
    exact ⟨p, r, r', a, b, rfl, ok, hz.1, hz.2, fgt_self q⟩
theorem rd_mirrored_plan (ds : List D) (μ : Mu) (Q : DK) (h : S_mirrored_plan ds μ Q) : t_mirrored_plan (En Q) (dstart N_mirrored_plan ds) μ := by
  obtain ⟨p, rfl, hl, q⟩ := h
  show t_mirrored_plan _ [some (planD p), none, none, none, none, none, none, none, none, none] μ
  unfold t_mirrored_plan planD
  walk_at "dd"
  refine lc_map p.boxes boxD (fun b => boxD ⟨p.wd - b.e, b.s, p.wd - b.w, b.n⟩) (fun _ => True) (w_tup fun Q h => ?_) (fun _ _ _ => True.intro) (lt_line (by omega)) (fun b hb μ' R h => ?_) (fun a ha => ?_)
  · walk_at "dd"; exact h
  · unfold boxD at h ⊢
    walk_at "dd"
    exact ⟨le_line (by decide), h⟩
  · refine (rToTup_l put_same _).mpr ?_
    refine ⟨le_line (by decide), fgt_of (Sub.new ha) ?_⟩
    have e : p.boxes.map (fun b => boxD ⟨p.wd - b.e, b.s, p.wd - b.w, b.n⟩) = (mirror p).boxes.map boxD := by
      unfold mirror; rw [List.map_map]; rfl
    rw [e]
    exact q
theorem rd_scaled_plan (ds : List D) (μ : Mu) (Q : DK) (h : S_scaled_plan ds μ Q) : t_scaled_plan (En Q) (dstart N_scaled_plan ds) μ := by
  obtain ⟨p, k, rfl, hl, hk, q⟩ := h
  have mk : ∀ j, DD.MulOk k j := fun j => DD.MulOk.l ⟨Int.lt_trans (by decide) hk.1, Int.lt_trans hk.2 (by decide)⟩
  show t_scaled_plan _ [some (planD p), some (.int k), none, none, none, none, none, none, none] μ
  unfold t_scaled_plan planD
  walk_at "dd"
  refine lc_map p.boxes boxD (fun b => boxD ⟨b.w * k, b.s * k, b.e * k, b.n * k⟩) (fun _ => True) (w_tup fun Q h => ?_) (fun _ _ _ => True.intro) (lt_line (by omega)) (fun b hb μ' R h => ?_) (fun a ha => ?_)
  · walk_at "dd"; exact h
  · walk_at "dd"
    refine lc_map [b.w, b.s, b.e, b.n] D.int (fun i => D.int (i * k)) (fun _ => True) (w_tup fun Q h => ?_) (fun _ _ _ => True.intro) (lt_line (show 4 ≤ 1000 by decide)) (fun i hi μ2 R2 h2 => ?_) (fun a2 ha2 => ?_)
    · walk_at "dd"; exact h
    · walk_at "dd"
      exact ⟨mk i, by rw [Int.mul_comm]; exact h2⟩
    · rw [rToTup_l put_same]
      exact fgt_of (Sub.new ha2) h
  · refine ⟨mk _, mk _, (rToTup_l put_same _).mpr ?_⟩
    refine ⟨ le_line (by decide), fgt_of (Sub.new ha) ?_⟩
    have e : p.boxes.map (fun b => boxD ⟨b.w * k, b.s * k, b.e * k, b.n * k⟩) = (scale k p).boxes.map boxD := by
      unfold scale; rw [List.map_map]; rfl
    rw [e, Int.mul_comm k p.wd, Int.mul_comm k p.ht]
    exact q
end K53
end
section
open PySem PySem.Spec PyProof.Rows L2
set_option Elab.async false
set_option linter.all false
set_option maxRecDepth 100000
namespace K53
open DD
local macro_rules | `(tactic| walk_at "dd") => `(tactic| simp only [ev_seq, ev_next, ev_drop, ev_ret, ev_if, ev_asg, ev_bnm, ev_btp, ev_sac, ev_san, ev_par, ev_par3, ev_put, ev_yes, ev_rev, ev_newD, ev_var, ev_C, ev_op, ev_test, ev_chain, ev_andT, ev_orT, ev_notT, ev_and, ev_or, ev_not, ev_ifE, ev_nil, ev_cons, ev_tup, ev_lst, ev_un, ev_cb, ev_bm0, ev_bm, ev_sl, ev_noP, ev_part, ev_fgt, asB_bl, asI_int, asT_tup, as1_one, as2_two, rInt_ii, rInt0_ii, rAdd_ii, rAdd_tt, rEq_ii, rEq_ss, rNe_ii, rNeg_i, rIx_t, rLen_t, rAbs_i, rToInt_i, rToInt_b, rMax_ii, rMin_ii, rToTup_t, at0, at1, at2, at3, dwipe, List.getElem?_cons_zero, List.getElem?_cons_succ, Option.getD_some, List.set_cons_zero, List.set_cons_succ, List.length_cons, List.length_nil, decide_eq_true_eq, if_true, if_false, ite_true, ite_false, Bool.false_eq_true, reduceIte, Bool.not_true, Bool.not_false, and_true, true_and])
/-! a table of boxes -/
def tabK : List Str → List Box → List (Key × D)
  | r :: rs, b :: bs => (.inr r, boxD b) :: tabK rs bs
  | _, _ => []
theorem tabK_len : ∀ {rs : List Str} {bs : List Box}, rs.length = bs.length → (tabK rs bs).length = rs.length
  | [], [], _ => rfl
  | _ :: rs, _ :: bs, h => by
    show (tabK rs bs).length + 1 = rs.length + 1
    rw [tabK_len (Nat.succ.inj h)]
  | [], _ :: _, h => nomatch h
  | _ :: _, [], h => nomatch h
theorem tabK_none : ∀ {rs : List Str} {bs : List Box} {r : Str}, r ∉ rs → getD (tabK rs bs) (.inr r) = none
  | [], [], _, _ => rfl
  | [], _ :: _, _, _ => rfl
  | _ :: _, [], _, _ => rfl
  | x :: rs, b :: bs, r, h => by
    have h1 : x ≠ r := fun e => h (e ▸ List.mem_cons_self)
    have h2 := tabK_none (bs := bs) fun z => h (List.mem_cons_of_mem x z)
    unfold getD at h2 ⊢
    show (List.find? _ ((Sum.inr x, boxD b) :: tabK rs bs)).map _ = none
    rw [List.find?_cons]
    have : decide ((Sum.inr x : Key) = Sum.inr r) = false := decide_eq_false fun e => h1 (Sum.inr.inj e)
    simp only [this]
    exact h2
theorem tabK_get : ∀ {rs : List Str} {bs : List Box} {i : Nat} {r : Str} {b : Box}, rs.Nodup → rs[i]? = some r → bs[i]? = some b → getD (tabK rs bs) (.inr r) = some (boxD b)
  | x :: rs, c :: bs, 0, r, b, _, h1, h2 => by
    cases h1
    cases h2
    unfold getD
    show (List.find? _ ((Sum.inr x, boxD c) :: tabK rs bs)).map _ = _
    rw [List.find?_cons]
    simp
  | x :: rs, c :: bs, i + 1, r, b, hn, h1, h2 => by
    have hn' := List.nodup_cons.mp hn
    have h1 : rs[i]? = some r := h1
    have h2 : bs[i]? = some b := h2
    have hne : x ≠ r := fun e => hn'.1 (e ▸ List.mem_of_getElem? h1)
    have ih := tabK_get hn'.2 h1 h2
    unfold getD at ih ⊢
    show (List.find? _ ((Sum.inr x, boxD c) :: tabK rs bs)).map _ = _
    rw [List.find?_cons]
    have : decide ((Sum.inr x : Key) = Sum.inr r) = false := decide_eq_false fun e => hne (Sum.inr.inj e)
    simp only [this]
    exact ih
  | [], _, _, _, _, _, h1, _ => by simp at h1
  | _ :: _, [], _, _, _, _, _, h2 => by simp at h2
theorem tabK_app : ∀ {rs : List Str} {bs : List Box} {r : Str} {b : Box}, rs.length = bs.length → tabK (rs ++ [r]) (bs ++ [b]) = tabK rs bs ++ [(.inr r, boxD b)]
  | [], [], _, _, _ => rfl
  | x :: rs, c :: bs, r, b, h => by
    show (Sum.inr x, boxD c) :: tabK (rs ++ [r]) (bs ++ [b]) = (Sum.inr x, boxD c) :: (tabK rs bs ++ _)
    rw [tabK_app (Nat.succ.inj h)]
  | [], _ :: _, _, _, h => nomatch h
  | _ :: _, [], _, _, h => nomatch h
theorem putD_new {κ : Type} [DecidableEq κ] {kvs : List (κ × D)} {k : κ} {v : D} (h : getD kvs k = none) : putD kvs k v = kvs ++ [(k, v)] := by
  unfold putD
  rw [if_neg]
  intro hc
  unfold getD at h
  obtain ⟨x, hx, e⟩ := List.any_eq_true.mp hc
  have := List.find?_eq_none.mp (Option.map_eq_none_iff.mp h) x hx
  exact this e
theorem rd_box_table (ds : List D) (μ : Mu) (Q : DK) (h : S_box_table ds μ Q) : t_box_table (En Q) (dstart N_box_table ds) μ := by
  obtain ⟨p, rfl, ok, q⟩ := h
  show t_box_table _ [some (planD p), none, none] μ
  unfold t_box_table planD
  rw [ev_ret]
  show dDc _ _ _ _ _ _ _ _ _
  unfold dDc diZip
  walk_at "dd"
  refine ⟨by rw [List.length_map, List.length_map]; exact ok.len, fun a ha => ?_⟩
  have hz : (p.rooms.map D.str).length = (p.boxes.map boxD).length := by rw [List.length_map, List.length_map]; exact ok.len
  have hl := ok.len
  refine ⟨fun i acc μ' => acc = tabK (p.rooms.take i) (p.boxes.take i) ∧ μ' = put μ a (.dK acc), ⟨by simp [tabK], rfl⟩, fun i acc μ' ⟨_, e⟩ => by rw [e]; exact put_same, fun i d acc μ' hd ⟨ea, e⟩ => ?_, fun acc μ' ⟨ea, e⟩ => ?_⟩
  · obtain ⟨x, y, hx, hy, rfl⟩ := zipD_get hz hd
    rw [List.getElem?_map] at hx hy
    cases hr : p.rooms[i]? with
    | none => rw [hr] at hx; cases hx
    | some r =>
      cases hb : p.boxes[i]? with
      | none => rw [hb] at hy; cases hy
      | some b =>
        rw [hr] at hx
        rw [hb] at hy
        cases hx
        cases hy
        have hi : i < p.rooms.length := (List.getElem?_eq_some_iff.mp hr).1
        walk_at "dd"
        refine ⟨by rw [e]; exact put_same, lt_line ?_, ?_⟩
        · rw [ea, tabK_len (by rw [List.length_take, List.length_take]; omega), List.length_take]
          have := ok.few
          omega
        · have hnot : r ∉ p.rooms.take i := fun hm => by
            obtain ⟨j, hj, ej⟩ := List.mem_iff_getElem.mp hm
            rw [List.length_take] at hj
            have e1 : p.rooms[j]? = some r := by
              rw [← ej, List.getElem_take]
              exact List.getElem?_eq_getElem (by omega)
            obtain ⟨h1, e1'⟩ := List.getElem?_eq_some_iff.mp e1
            obtain ⟨h2, e2'⟩ := List.getElem?_eq_some_iff.mp hr
            have := (List.getElem_inj ok.nd).mp (e1'.trans e2'.symm)
            omega
          have hput : putD acc (Sum.inr r) (boxD b) = tabK (p.rooms.take (i + 1)) (p.boxes.take (i + 1)) := by
            rw [ea, putD_new (tabK_none hnot), List.take_add_one, List.take_add_one, hr, hb]
            exact (tabK_app (by rw [List.length_take, List.length_take]; omega)).symm
          refine ⟨hput, ?_⟩
          rw [e, put_put]
  · rw [zipD_len hz, List.length_map, List.take_length, hl, List.take_length] at ea
    rw [e, ea]
    refine fgt_self (q a _ ha fun r b ⟨i, h1, h2⟩ => tabK_get ok.nd h1 h2)
/-! turned plans -/
theorem turnN_succ : ∀ (n : Nat) (p : Plan), turnN (n + 1) p = turn1 (turnN n p)
  | 0, _ => rfl
  | n + 1, p => by
    show turnN (n + 1) (turn1 p) = turn1 (turnN n (turn1 p))
    exact turnN_succ n (turn1 p)
theorem turn1_len (p : Plan) : (turn1 p).boxes.length = p.boxes.length := List.length_map _
theorem turnN_len : ∀ (n : Nat) (p : Plan), (turnN n p).boxes.length = p.boxes.length
  | 0, _ => rfl
  | n + 1, p => by rw [turnN_succ, turn1_len, turnN_len n p]
theorem turnN_rooms : ∀ (n : Nat) (p : Plan), (turnN n p).rooms = p.rooms
  | 0, _ => rfl
  | n + 1, p => by rw [turnN_succ]; exact turnN_rooms n p
theorem sm4 (n : Int) : Sm (n % 4) := ⟨by omega, by omega⟩
theorem rd_turned_plan (ds : List D) (μ : Mu) (Q : DK) (h : S_turned_plan ds μ Q) : t_turned_plan (En Q) (dstart N_turned_plan ds) μ := by
  obtain ⟨p, n, rfl, hl, q⟩ := h
  show t_turned_plan _ [some (planD p), some (.int n), none, none, none, none, none, none, none, none, none] μ
  unfold t_turned_plan
  generalize hP : planD p = P
  rw [ev_seq, ev_asg, ev_var]
  show dBind _ P _ _
  rw [← hP]
  unfold planD
  walk_at "dd"
  refine for_r1 (n % 4) (fun R h => ?_) (sm4 n) (fun i s μ' => μ' = μ ∧ ∃ u, s = [some (planD p), some (.int n), some (.tup (p.rooms.map .str)), some (.int (turnN i p).wd), some (.int (turnN i p).ht), some (.tup ((turnN i p).boxes.map boxD)), u, none, none, none, none]) ⟨rfl, none, rfl⟩ (fun i s μ' hi iv => ?_) (fun s μ' iv => ?_)
  · walk_at "dd"
    exact ⟨by decide, h⟩
  · obtain ⟨rfl, u, rfl⟩ := iv
    generalize hp' : turnN i p = p'
    have hl' : p'.boxes.length ≤ 40 := by rw [← hp', turnN_len]; exact hl
    walk_at "dd"
    refine lc_map p'.boxes boxD (fun b => boxD ⟨p'.ht - b.n, b.w, p'.ht - b.s, b.e⟩) (fun _ => True) (w_tup fun Q h => ?_) (fun _ _ _ => True.intro) (lt_line (by omega)) (fun b hb μ' R h => ?_) (fun a ha => ?_)
    · walk_at "dd"; exact h
    · unfold boxD at h ⊢
      walk_at "dd"
      exact ⟨le_line (by decide), h⟩
    · refine (rToTup_l put_same _).mpr ?_
      refine fgt_of (Sub.new ha) ?_
      refine ⟨le_line (by decide), rfl, some (.int (i : Int)), ?_⟩
      have e : p'.boxes.map (fun b => boxD ⟨p'.ht - b.n, b.w, p'.ht - b.s, b.e⟩) = (turn1 p').boxes.map boxD := by
        unfold turn1; rw [List.map_map]; rfl
      rw [turnN_succ, hp', e]
      rfl
  · obtain ⟨rfl, u, rfl⟩ := iv
    walk_at "dd"
    refine ⟨le_line (by decide), fgt_self ?_⟩
    have e := turnN_rooms (n % 4).toNat p
    unfold planD at q
    rw [e] at q
    exact q
end K53
end
section
open PySem PySem.Spec PyProof.Rows L2
set_option Elab.async false
set_option linter.all false
set_option maxRecDepth 100000
namespace K53
open DD
local macro_rules | `(tactic| walk_at "dd") => `(tactic| simp only [ev_seq, ev_next, ev_drop, ev_ret, ev_if, ev_asg, ev_bnm, ev_btp, ev_sac, ev_san, ev_par, ev_par3, ev_put, ev_yes, ev_rev, ev_newD, ev_var, ev_C, ev_op, ev_test, ev_chain, ev_andT, ev_orT, ev_notT, ev_and, ev_or, ev_not, ev_ifE, ev_nil, ev_cons, ev_tup, ev_lst, ev_un, ev_cb, ev_bm0, ev_bm, ev_sl, ev_noP, ev_part, ev_fgt, asB_bl, asI_int, asT_tup, as1_one, as2_two, rInt_ii, rInt0_ii, rAdd_ii, rAdd_tt, rEq_ii, rEq_ss, rNe_ii, rNeg_i, rIx_t, rLen_t, rAbs_i, rToInt_i, rToInt_b, rMax_ii, rMin_ii, rToTup_t, at0, at1, at2, at3, dwipe, List.getElem?_cons_zero, List.getElem?_cons_succ, Option.getD_some, List.set_cons_zero, List.set_cons_succ, List.length_cons, List.length_nil, decide_eq_true_eq, if_true, if_false, ite_true, ite_false, Bool.false_eq_true, reduceIte, Bool.not_true, Bool.not_false, and_true, true_and])
theorem rd__law_moved_3 {p p' : Plan} {P : D} {m n k : Int} {μ : Mu} {Q : DK} (hk : Sml k) (hr : p'.rooms = p.rooms) (hl' : p'.boxes.length ≤ 40) (q' : Q (planD (scale k (turnN (n % 4).toNat p'))) μ) :
    t__law_moved_3 (En Q) [some P, some (.int m), some (.int n), some (.int k), some (.tup (p.rooms.map .str)), some (.int p'.wd), some (.int p'.ht), some (.tup (p'.boxes.map boxD)), none, none, none, none, none, none, none] μ := by
  have mk : ∀ j, DD.MulOk j k := fun j => DD.MulOk.r ⟨Int.lt_trans (by decide) hk.1, Int.lt_trans hk.2 (by decide)⟩
  unfold t__law_moved_3
  rw [ev_seq]
  refine for_r1 (n % 4) (fun R h => ?_) (sm4 n) (fun i s μ' => μ' = μ ∧ ∃ u, s = [some P, some (.int m), some (.int n), some (.int k), some (.tup (p.rooms.map .str)), some (.int (turnN i p').wd), some (.int (turnN i p').ht), some (.tup ((turnN i p').boxes.map boxD)), u, none, none, none, none, none, none]) ⟨rfl, none, rfl⟩ (fun i s μ' hi iv => ?_) (fun s μ' iv => ?_)
  · walk_at "dd"
    exact ⟨by decide, h⟩
  · obtain ⟨rfl, u, rfl⟩ := iv
    generalize hp2 : turnN i p' = p2
    have hl2 : p2.boxes.length ≤ 40 := by rw [← hp2, turnN_len]; exact hl'
    unfold t__law_moved_1
    walk_at "dd"
    refine lc_map p2.boxes boxD (fun b => boxD ⟨p2.ht - b.n, b.w, p2.ht - b.s, b.e⟩) (fun _ => True) (w_tup fun Q h => ?_) (fun _ _ _ => True.intro) (lt_line (by omega)) (fun b hb μ' R h => ?_) (fun a ha => ?_)
    · walk_at "dd"; exact h
    · unfold boxD at h ⊢
      walk_at "dd"
      exact ⟨le_line (by decide), h⟩
    · refine (rToTup_l put_same _).mpr ?_
      refine fgt_of (Sub.new ha) ?_
      refine ⟨le_line (by decide), rfl, some (.int (i : Int)), ?_⟩
      have e : p2.boxes.map (fun b => boxD ⟨p2.ht - b.n, b.w, p2.ht - b.s, b.e⟩) = (turn1 p2).boxes.map boxD := by
        unfold turn1; rw [List.map_map]; rfl
      rw [turnN_succ, hp2, e]
      rfl
  · obtain ⟨rfl, u, rfl⟩ := iv
    have hr2 : p.rooms = (turnN (n % 4).toNat p').rooms := by rw [turnN_rooms, hr]
    have hl2 : (turnN (n % 4).toNat p').boxes.length ≤ 40 := by rw [turnN_len]; exact hl'
    rw [hr2]
    generalize turnN (n % 4).toNat p' = p2 at q' hl2
    dsimp only
    unfold t__law_moved_2
    walk_at "dd"
    refine ⟨mk _, mk _, lc_map p2.boxes boxD (fun b => boxD ⟨b.w * k, b.s * k, b.e * k, b.n * k⟩) (fun _ => True) (w_tup fun Q h => ?_) (fun _ _ _ => True.intro) (lt_line (by omega)) (fun b hb μ' R h => ?_) (fun a ha => ?_)⟩
    · walk_at "dd"; exact h
    · walk_at "dd"
      refine lc_map [b.w, b.s, b.e, b.n] D.int (fun i => D.int (i * k)) (fun _ => True) (w_tup fun Q h => ?_) (fun _ _ _ => True.intro) (lt_line (show 4 ≤ 1000 by decide)) (fun i hi μ2 R2 h2 => ?_) (fun a2 ha2 => ?_)
      · walk_at "dd"; exact h
      · walk_at "dd"
        exact ⟨mk i, h2⟩
      · refine (rToTup_l put_same _).mpr ?_
        exact fgt_of (Sub.new ha2) h
    · refine (rToTup_l put_same _).mpr ?_
      refine fgt_of (Sub.new ha) ⟨le_line (by decide), fgt_self ?_⟩
      have e : p2.boxes.map (fun b => boxD ⟨b.w * k, b.s * k, b.e * k, b.n * k⟩) = (scale k p2).boxes.map boxD := by
        unfold scale; rw [List.map_map]; rfl
      rw [e]
      exact q'
theorem rd__law_moved (ds : List D) (μ : Mu) (Q : DK) (h : S__law_moved ds μ Q) : t__law_moved (En Q) (dstart N__law_moved ds) μ := by
  obtain ⟨p, m, n, k, rfl, hl, hk, q⟩ := h
  show t__law_moved _ [some (planD p), some (.int m), some (.int n), some (.int k), none, none, none, none, none, none, none, none, none, none, none] μ
  unfold t__law_moved t__law_moved_4 planD
  walk_at "dd"
  refine ite2 (fun c => ?_) (fun c => ?_)
  · rw [if_pos c] at q
    refine lc_map p.boxes boxD (fun b => boxD ⟨p.wd - b.e, b.s, p.wd - b.w, b.n⟩) (fun _ => True) (w_tup fun Q h => ?_) (fun _ _ _ => True.intro) (lt_line (by omega)) (fun b hb μ' R h => ?_) (fun a ha => ?_)
    · walk_at "dd"; exact h
    · unfold boxD at h ⊢
      walk_at "dd"
      exact ⟨le_line (by decide), h⟩
    · refine (rToTup_l put_same _).mpr ?_
      refine fgt_of (Sub.new ha) ?_
      have e : p.boxes.map (fun b => boxD ⟨p.wd - b.e, b.s, p.wd - b.w, b.n⟩) = (mirror p).boxes.map boxD := by
        unfold mirror; rw [List.map_map]; rfl
      rw [e]
      exact rd__law_moved_3 (p := p) (p' := mirror p) hk rfl (by rw [show (mirror p).boxes.length = p.boxes.length from List.length_map _]; exact hl) q
  · rw [if_neg c] at q
    exact rd__law_moved_3 hk rfl hl q
/-! the same data -/
theorem rd__law_same (n : Nat) (ds : List D) (μ : Mu) (Q : DK) (S : SpD) (hS : ∀ m, n = m + 1 → S = S__law_same_d m) (h : S__law_same_d n ds μ Q) : t__law_same S (En Q) (dstart N__law_same ds) μ := by
  obtain ⟨x, rfl, hp, q⟩ := h
  show t__law_same S _ [some x, some x, none] μ
  unfold t__law_same
  cases x with
  | int i =>
    walk_at "dd"
    simp only [isi_it, isi_is, isi_ii, isi_ib, asB_bl, Bool.not_false, if_true, Bool.false_eq_true, if_false, rEq_ii, decide_true]
    exact fgt_self q
  | str i =>
    walk_at "dd"
    simp only [isi_st, isi_ss, asB_bl, Bool.not_false, if_true, Bool.false_eq_true, if_false, rEq_ss, decide_true]
    exact fgt_self q
  | tup xs =>
    cases n with
    | zero => exact hp.elim
    | succ m =>
      obtain ⟨hl, hx⟩ := hp
      rw [hS m rfl]
      walk_at "dd"
      simp only [isi_tt, asB_bl, if_true, rLen_t, rEq_ii, decide_true]
      refine lc_filter (List.range xs.length) (fun i => .int (0 + (i : Int))) (fun _ => .int 1) (fun _ => false) (fun _ => True) (fun R h => ?_) (fun _ _ _ => True.intro) (lt_line (by rw [List.length_range]; exact hl)) (fun i hi μ' R h1 h2 => ?_) (fun a ha => ?_)
      · unfold diR1
        walk_at "dd"
        exact ⟨⟨by omega, by omega⟩, h⟩
      · have hi' := List.mem_range.mp hi
        have e : atI xs (0 + (i : Int)) = some xs[i] := by
          rw [Int.zero_add]; exact atI_nat (List.getElem?_eq_getElem hi')
        walk_at "dd"
        simp only [e]
        exact ⟨xs[i], rfl, hx _ (List.getElem_mem hi'), h2 rfl⟩
      · refine (rLen_l put_same _).mpr ?_
        have e : ((List.range xs.length).filter fun _ => false) = [] := List.filter_eq_nil_iff.mpr fun _ _ => by decide
        rw [e]
        exact fgt_of (Sub.new ha) (fgt_self q)
  | non => cases n <;> exact hp.elim
  | bl _ => cases n <;> exact hp.elim
  | ty _ => cases n <;> exact hp.elim
  | rol _ => cases n <;> exact hp.elim
  | obj _ => cases n <;> exact hp.elim
end K53
end
section
open PySem PySem.Spec PyProof.Rows L2
set_option Elab.async false
set_option linter.all false
set_option maxRecDepth 100000
namespace K53
open DD
local macro_rules | `(tactic| walk_at "dd") => `(tactic| simp only [ev_seq, ev_next, ev_drop, ev_ret, ev_if, ev_asg, ev_bnm, ev_btp, ev_sac, ev_san, ev_par, ev_par3, ev_put, ev_yes, ev_rev, ev_newD, ev_var, ev_C, ev_op, ev_test, ev_chain, ev_andT, ev_orT, ev_notT, ev_and, ev_or, ev_not, ev_ifE, ev_nil, ev_cons, ev_tup, ev_lst, ev_un, ev_cb, ev_bm0, ev_bm, ev_sl, ev_noP, ev_part, ev_fgt, asB_bl, asI_int, asT_tup, as1_one, as2_two, rInt_ii, rInt0_ii, rAdd_ii, rAdd_tt, rEq_ii, rEq_ss, rNe_ii, rNeg_i, rIx_t, rLen_t, rAbs_i, rToInt_i, rToInt_b, rMax_ii, rMin_ii, rToTup_t, at0, at1, at2, at3, dwipe, List.getElem?_cons_zero, List.getElem?_cons_succ, Option.getD_some, List.set_cons_zero, List.set_cons_succ, List.length_cons, List.length_nil, decide_eq_true_eq, if_true, if_false, ite_true, ite_false, Bool.false_eq_true, reduceIte, Bool.not_true, Bool.not_false, and_true, true_and])
/-! the tiler -/
theorem Keep.refl (as : List Addr) (μ : Mu) : Keep as μ μ := fun _ _ _ h => h
theorem Keep.trans {as : List Addr} {μ μ1 μ2 : Mu} (a : Keep as μ μ1) (b : Keep as μ1 μ2) : Keep as μ μ2 := fun x m n h => b x m n (a x m n h)
theorem Keep.put {as : List Addr} {μ : Mu} {p : Addr} {m : MO} (h : p ∈ as) : Keep as μ (put μ p m) := fun x n nx e => by
  have : x ≠ p := fun z => nx (z ▸ h)
  rw [put_ne this]; exact e
theorem Keep.new {as : List Addr} {μ : Mu} {p : Addr} {m : MO} (h : μ p = none) : Keep as μ (DD.put μ p m) := fun x n _ e => Sub.new h x n e
abbrev tlK (t g r : D) : List (Key × D) := [(.inr "tiles", t), (.inr "grout", g), (.inr "row", r)]
theorem tl_row (t g r : D) : DD.getD (tlK t g r) (.inr "row") = some r := by rfl
theorem tl_grout (t g r : D) : DD.getD (tlK t g r) (.inr "grout") = some g := by rfl
theorem tl_tiles (t g r : D) : DD.getD (tlK t g r) (.inr "tiles") = some t := by rfl
theorem tp_row (t g r v : D) : putD (tlK t g r) (.inr "row") v = tlK t g v := by rfl
theorem tp_grout (t g r v : D) : putD (tlK t g r) (.inr "grout") v = tlK t v r := by rfl
theorem rd__law_tile (ds : List D) (μ : Mu) (Q : DK) (h : S__law_tile ds μ Q) : t__law_tile (En Q) (dstart N__law_tile ds) μ := by
  obtain ⟨a, l, m, rfl, tl, hm, q⟩ := h
  obtain ⟨ne, ts, g, r, ea, el, hts⟩ := tl
  show t__law_tile _ [some (.obj a), some (.int m), none] μ
  unfold t__law_tile
  walk_at "dd"
  rw [rIx_ds ea, tl_row]
  walk_at "dd"
  rw [rPut_ds ea, tp_row]
  refine ⟨lt_line (show 3 ≤ 1000 by decide), ?_⟩
  -- the first store
  have kp1 : Keep [a, l] μ (put μ a (.dK (tlK (.obj l) (.int g) (.int (r + 1))))) := Keep.put (by simp)
  have ea1 : put μ a (.dK (tlK (.obj l) (.int g) (.int (r + 1)))) a = some (.dK (tlK (.obj l) (.int g) (.int (r + 1)))) := put_same
  have el1 : put μ a (.dK (tlK (.obj l) (.int g) (.int (r + 1)))) l = some (.lst (ts.map D.int)) := by rw [put_ne (Ne.symm ne)]; exact el
  generalize put μ a (.dK (tlK (.obj l) (.int g) (.int (r + 1)))) = μ1 at kp1 ea1 el1
  refine ite2 (fun c => ?_) (fun c => ?_)
  · exact fgt_self (q 0 μ1 ⟨ne, ts, g, r + 1, ea1, el1, hts⟩ kp1 (Int.le_refl 0) (.inl rfl))
  · rw [rIx_ds ea1, tl_tiles]
    show rLenD [.obj l] μ1 _
    rw [rLen_l el1]
    walk_at "dd"
    refine ite2 (fun c2 => ?_) (fun c2 => ?_)
    · rw [rIx_ds ea1, tl_tiles]
      dsimp only
      rw [recv_l el1]
      refine ⟨rfl, ?_⟩
      rw [rPop0_l el1]
      have hpos : 0 < ts.length := by
        rw [List.length_map] at c2; omega
      have e1 : (ts.map D.int)[(ts.map D.int).length - 1]? = some (.int (ts[ts.length - 1])) := by
        rw [List.length_map, List.getElem?_map, List.getElem?_eq_getElem (by omega)]; rfl
      rw [e1]
      walk_at "dd"
      have e2 : (ts.map D.int).dropLast = ts.dropLast.map D.int := (List.map_dropLast).symm
      rw [e2]
      generalize ts[ts.length - 1] = v
      have hm2 : 2 ≤ m := by omega
      have hr0 : 0 ≤ v % m := Int.emod_nonneg _ (by omega)
      have hr1 : v % m < m := Int.emod_lt_of_pos _ (by omega)
      have kp2 : Keep [a, l] μ (put μ1 l (.lst (ts.dropLast.map D.int))) := kp1.trans (Keep.put (by simp))
      have ea2 : put μ1 l (.lst (ts.dropLast.map D.int)) a = some (.dK (tlK (.obj l) (.int g) (.int (r + 1)))) := by rw [put_ne ne]; exact ea1
      have el2 : put μ1 l (.lst (ts.dropLast.map D.int)) l = some (.lst (ts.dropLast.map D.int)) := put_same
      generalize put μ1 l (.lst (ts.dropLast.map D.int)) = μ2 at kp2 ea2 el2
      have hdl : ts.dropLast.length + 1 ≤ 100 := by rw [List.length_dropLast]; omega
      refine ite2 (fun c3 => ?_) (fun c3 => ?_)
      · rw [rIx_ds ea2, tl_tiles]
        dsimp only
        rw [recv_l el2]
        refine ⟨rfl, ?_⟩
        have hmd : m.natAbs < 2 ^ 64 := by omega
        refine ⟨wide_div (by omega) hmd (by decide) (by decide), ?_⟩
        rw [rApp_l el2]
        refine ⟨lt_line (by rw [List.length_map]; omega), ?_⟩
        refine ⟨by omega, fgt_self (q _ _ ⟨ne, ts.dropLast ++ [v / m], g, r + 1, ?_, ?_, ?_⟩ (kp2.trans (Keep.put (by simp))) hr0 (.inr hr1))⟩
        · rw [put_ne ne]; exact ea2
        · rw [put_same, List.map_append]; rfl
        · rw [List.length_append]; simpa using hdl
      · refine ⟨by omega, fgt_self (q _ _ ⟨ne, ts.dropLast, g, r + 1, ea2, el2, by omega⟩ kp2 hr0 (.inr hr1))⟩
    · rw [rIx_ds ea1, tl_grout]
      walk_at "dd"
      refine ⟨DD.MulOk.r ⟨by decide, by decide⟩, ?_⟩
      rw [rIx_ds ea1, tl_row]
      walk_at "dd"
      refine ⟨DD.MulOk.r ⟨by decide, by decide⟩, by decide, ?_⟩
      rw [rPut_ds ea1, tp_grout]
      refine ⟨lt_line (show 3 ≤ 1000 by decide), ?_⟩
      rw [rIx_ds put_same, tl_grout]
      walk_at "dd"
      generalize (g * 69621 + (r + 1) * 12007 + 31) % 2147483647 = g'
      refine ⟨⟨by decide, by decide⟩, by omega, fgt_self (q _ _ ⟨ne, ts, g', r + 1, put_same, ?_, hts⟩ (kp1.trans (Keep.put (by simp))) (Int.emod_nonneg _ (by omega)) (.inr (Int.emod_lt_of_pos _ (by omega))))⟩
      rw [put_ne (Ne.symm ne)]; exact el1
end K53
end
section
open PySem PySem.Spec PyProof.Rows L2
set_option Elab.async false
set_option linter.all false
set_option maxRecDepth 100000
namespace K53
open DD
local macro_rules | `(tactic| walk_at "dd") => `(tactic| simp only [ev_seq, ev_next, ev_drop, ev_ret, ev_if, ev_asg, ev_bnm, ev_btp, ev_sac, ev_san, ev_par, ev_par3, ev_put, ev_yes, ev_rev, ev_newD, ev_var, ev_C, ev_op, ev_test, ev_chain, ev_andT, ev_orT, ev_notT, ev_and, ev_or, ev_not, ev_ifE, ev_nil, ev_cons, ev_tup, ev_lst, ev_un, ev_cb, ev_bm0, ev_bm, ev_sl, ev_noP, ev_part, ev_fgt, asB_bl, asI_int, asT_tup, as1_one, as2_two, rInt_ii, rInt0_ii, rAdd_ii, rAdd_tt, rEq_ii, rEq_ss, rNe_ii, rNeg_i, rIx_t, rLen_t, rAbs_i, rToInt_i, rToInt_b, rMax_ii, rMin_ii, rToTup_t, at0, at1, at2, at3, dwipe, List.getElem?_cons_zero, List.getElem?_cons_succ, Option.getD_some, List.set_cons_zero, List.set_cons_succ, List.length_cons, List.length_nil, decide_eq_true_eq, if_true, if_false, ite_true, ite_false, Bool.false_eq_true, reduceIte, Bool.not_true, Bool.not_false, and_true, true_and])
def M9 : Int := (10 ^ (44 : Int).toNat) ^ (9 : Int).toNat
theorem m9_pos : (0 : Int) < (10 ^ (44 : Int).toNat) ^ (9 : Int).toNat := by decide +kernel
theorem pw1 : CPowW 10 16 := by unfold CPowW; decide +kernel
theorem pw2 : CPowW 10 44 := by unfold CPowW; decide +kernel
theorem pw3 : CPowW (10 ^ (44 : Int).toNat) 9 := by unfold CPowW; decide +kernel
theorem keys3 (t g r : D) : keysD [(.str "tiles", t), (.str "grout", g), (.str "row", r)] = some (tlK t g r) := by rfl
theorem merge3 (t g r : D) : mergeD [] (tlK t g r) = tlK t g r := by rfl
def absI (x : Int) : Int := if x < 0 then -x else x
theorem rd__law_tiler (ds : List D) (μ : Mu) (Q : DK) (h : S__law_tiler ds μ Q) : t__law_tiler (En Q) (dstart N__law_tiler ds) μ := by
  obtain ⟨ns, rfl, hn, q⟩ := h
  show t__law_tiler _ [some (.rol (ns.map D.int)), none, none] μ
  unfold t__law_tiler
  rw [ev_seq, ev_asg, ev_C, ev_bnm]
  dsimp only [List.set_cons_succ, List.set_cons_zero]
  rw [ev_seq]
  refine for_lst ?_ ?_
  · walk_at "dd"
    rw [rSl_r]
    intro p hp
    refine ⟨p, _, rfl, put_same, fun i s μ' => μ' = put μ p (.lst (cutD (ns.map D.int) none (some 57))) ∧ ∃ g u, s = [some (.rol (ns.map D.int)), some (.int g), u], ⟨rfl, 63029, none, rfl⟩, fun i s μ' ⟨e, _⟩ => by rw [e]; exact put_same, fun i d s μ' hd ⟨e, g, u, es⟩ => ?_, fun s μ' ⟨e, g, u, es⟩ => ?_⟩
    · subst es
      rw [cutD_map, List.getElem?_map] at hd
      cases hc : (cutI ns none (some 57))[i]? with
      | none => rw [hc] at hd; cases hd
      | some c =>
        rw [hc] at hd
        cases hd
        walk_at "dd"
        refine ⟨DD.MulOk.r ⟨by decide, by decide⟩, by decide, DD.MulOk.l ⟨by decide, by decide⟩, by decide, e, _, _, rfl⟩
    · subst es
      have hs : Sub μ μ' := by rw [e]; exact Sub.new hp
      clear e
      rw [ev_disp]
      intro a ha
      rw [ev_pcons]
      walk_at "dd"
      rw [ev_lc, ev_diSeq]
      walk_at "dd"
      rw [rSl_r]
      intro b hb
      rw [seqI_obj put_same]
      rw [cutD_map]
      refine lcB_filter (cutI ns none (some 37)) D.int (fun x => .int (absI x % M9)) (fun x => decide ((10 : Int) ^ (16 : Int).toNat < absI x)) rfl (fun p2 acc hp2 => put_old put_same hp2) (lt_line (Nat.le_trans (cutI_len _ _ _) (by omega))) (fun x hx μ2 R h1 h2 => ?_) (fun c hc => ?_)
      · walk_at "dd"
        refine ⟨pw1, ite2 (fun c => ?_) (fun c => ?_)⟩
        · exact ⟨pw2, pw3, m9_pos, h1 (decide_eq_true c)⟩
        · exact h2 (decide_eq_false c)
      · rw [revD_obj put_same]
        intro l hl
        simp only [ev_pcons, ev_pnil]
        walk_at "dd"
        rw [keys3]
        dsimp only
        rw [merge3]
        -- what stands where
        have nab : a ≠ b := fun e => by subst e; rw [put_same] at hb; cases hb
        have nac : a ≠ c := fun e => by subst e; rw [put_ne nab, put_same] at hc; cases hc
        have nal : a ≠ l := fun e => by subst e; rw [put_ne nac, put_ne nab, put_same] at hl; cases hl
        refine ⟨by rw [put_ne nal, put_ne nac, put_ne nab]; exact put_same, (show 3 ≤ 15 by decide), fgt_self (q a l _ ⟨nal, ((cutI ns none (some 37)).filter fun x => decide ((10 : Int) ^ (16 : Int).toNat < absI x)).reverse.map (fun x => absI x % M9), g, 0, put_same, ?_, ?_⟩ ?_)⟩
        · rw [put_ne (Ne.symm nal), put_same, ← List.map_reverse, List.map_map]
          rfl
        · rw [List.length_map, List.length_reverse]
          exact Nat.le_trans (List.length_filter_le _ _) (Nat.le_trans (cutI_len _ _ _) (by omega))
        · intro x m hx
          have h1 := Sub.trans hs (Sub.new (m := .dK []) ha) x m hx
          have h2 := Sub.new (m := .lst ((cutI ns none (some 37)).map D.int)) hb x m h1
          have h3 := Sub.new (m := .lst (((cutI ns none (some 37)).filter fun x => decide ((10 : Int) ^ (16 : Int).toNat < absI x)).map fun x => D.int (absI x % M9))) hc x m h2
          have hxa : x ≠ a := ne_new (hs x m hx) ha
          rw [put_ne hxa]
          exact Sub.new hl x m h3
  · intro Q1 Q2 f h
    simp only [ev_sl, ev_var, ev_noP, ev_part, ev_C, asI_int, List.getElem?_cons_zero, Option.getD_some, rSl_r] at h ⊢
    exact fun p hp => f _ _ (h p hp)
/-! a cut: a place that no line has -/
def intsOf : List (Key × D) → List Int
  | [] => []
  | (.inl i, _) :: r => i :: intsOf r
  | (.inr _, _) :: r => intsOf r
theorem intsOf_len : ∀ l : List (Key × D), (intsOf l).length ≤ l.length
  | [] => Nat.le_refl _
  | (.inl i, _) :: r => Nat.succ_le_succ (intsOf_len r)
  | (.inr _, _) :: r => Nat.le_succ_of_le (intsOf_len r)
theorem intsOf_none : ∀ {l : List (Key × D)} {k : Int}, k ∉ intsOf l → DD.getD l (.inl k) = none
  | [], _, _ => rfl
  | (.inl i, d) :: r, k, h => by
    have h1 : i ≠ k := fun e => h (e ▸ List.mem_cons_self)
    have h2 := intsOf_none (l := r) fun z => h (List.mem_cons_of_mem i z)
    unfold DD.getD at h2 ⊢
    rw [List.find?_cons]
    have : decide ((Sum.inl i : Key) = Sum.inl k) = false := decide_eq_false fun e => h1 (Sum.inl.inj e)
    simp only [this]
    exact h2
  | (.inr i, d) :: r, k, h => by
    have h2 := intsOf_none (l := r) (k := k) h
    unfold DD.getD at h2 ⊢
    rw [List.find?_cons]
    have : decide ((Sum.inr i : Key) = Sum.inl k) = false := decide_eq_false fun e => by cases e
    simp only [this]
    exact h2
/-- how far the next free place is, going round -/
def farTo (lo hi f x : Int) : Int := if lo ≤ x ∧ x ≤ f then f - x else if f < x ∧ x < hi - 1 then (hi - x) + (f - lo) else 1 + (f - lo)
theorem farTo_nn {lo hi f x : Int} (h1 : lo < f) (h2 : f < hi) : 0 ≤ farTo lo hi f x := by
  unfold farTo; split
  · omega
  · split <;> omega
theorem farTo_lt {lo hi f x : Int} (h1 : lo < f) (h2 : f < hi) (hx : x ≠ f) : farTo lo hi f (if lo ≤ x ∧ x < hi - 1 then x + 1 else lo + 1) < farTo lo hi f x := by
  unfold farTo
  repeat' split
  all_goals omega
theorem rd__law_cut (ds : List D) (μ : Mu) (Q : DK) (h : S__law_cut ds μ Q) : t__law_cut (En Q) (dstart N__law_cut ds) μ := by
  obtain ⟨a, l, lo, hi, t, kvs, rfl, tl, hta, htl, et, h1, h2, h3, q⟩ := h
  show t__law_cut _ [some (.obj a), some (.int lo), some (.int hi), some (.obj t), none] μ
  unfold t__law_cut
  walk_at "dd"
  refine ⟨⟨by decide, by decide⟩, ⟨by decide, by decide⟩, a, l, _, rfl, tl, by omega, fun v μ1 tl1 kp hv _ => ?_⟩
  have et1 : μ1 t = some (.dK kvs) := kp t _ (by simp [hta, htl]) et
  -- a place that is free
  obtain ⟨f, f1, f2, f3⟩ := free_place (intsOf kvs) lo (hi - lo - 1).toNat (by have := intsOf_len kvs; omega)
  have f2 : f < hi := by omega
  walk_at "dd"
  generalize lo + (hi - lo) / 5 + v = x0
  refine ⟨fun m s μ' => μ' = μ1 ∧ ∃ x, s = [some (.obj a), some (.int lo), some (.int hi), some (.obj t), some (.int x)] ∧ m = (farTo lo hi f x).toNat, ⟨_, rfl, x0, rfl, rfl⟩, fun m s μ' ⟨e, x, es, em⟩ => ?_⟩
  subst e es em
  have hsome : ∀ k, (DD.getD kvs (.inl k)).isSome = true → k ≠ f := fun k hk e => by
    rw [e, intsOf_none f3] at hk; cases hk
  simp only [ev_orT, ev_test, ev_op, ev_var, List.getElem?_cons_zero, List.getElem?_cons_succ, Option.getD_some]
  rw [rIn_di et1]
  walk_at "dd"
  have hP : ∀ y, farTo lo hi f y < farTo lo hi f x → ∃ m', m' < (farTo lo hi f x).toNat ∧ ∃ x1, [some (D.obj a), some (D.int lo), some (D.int hi), some (D.obj t), some (D.int y)] = [some (D.obj a), some (D.int lo), some (D.int hi), some (D.obj t), some (D.int x1)] ∧ m' = (farTo lo hi f x1).toNat := fun y hy =>
    ⟨_, by have := farTo_nn (x := y) f1 f2; omega, y, rfl, rfl⟩
  have step : x ≠ f → (if lo ≤ x then (if x < hi - 1 then ∃ m', m' < (farTo lo hi f x).toNat ∧ ∃ x1, [some (D.obj a), some (D.int lo), some (D.int hi), some (D.obj t), some (D.int (x + 1))] = [some (D.obj a), some (D.int lo), some (D.int hi), some (D.obj t), some (D.int x1)] ∧ m' = (farTo lo hi f x1).toNat
      else ∃ m', m' < (farTo lo hi f x).toNat ∧ ∃ x1, [some (D.obj a), some (D.int lo), some (D.int hi), some (D.obj t), some (D.int (lo + 1))] = [some (D.obj a), some (D.int lo), some (D.int hi), some (D.obj t), some (D.int x1)] ∧ m' = (farTo lo hi f x1).toNat)
      else ∃ m', m' < (farTo lo hi f x).toNat ∧ ∃ x1, [some (D.obj a), some (D.int lo), some (D.int hi), some (D.obj t), some (D.int (lo + 1))] = [some (D.obj a), some (D.int lo), some (D.int hi), some (D.obj t), some (D.int x1)] ∧ m' = (farTo lo hi f x1).toNat) := fun hx => by
    have k1 := farTo_lt f1 f2 hx
    refine ite2 (fun c1 => ite2 (fun c2 => hP _ ?_) (fun c2 => hP _ ?_)) (fun c1 => hP _ ?_)
    · rw [if_pos ⟨c1, c2⟩] at k1; exact k1
    · rw [if_neg (fun z => c2 z.2)] at k1; exact k1
    · rw [if_neg (fun z => c1 z.1)] at k1; exact k1
  refine ite2 (fun c => step (hsome x c)) (fun c => ite2 (fun c1 => ite2 (fun c2 => step ?_) (fun c2 => ?_)) (fun c1 => step (fun e => c1 (by rw [e]; exact f1))))
  · have : ¬ x < hi := by simpa using c2
    omega
  · have c2 : x < hi := by simpa using c2
    have c0 : DD.getD kvs (.inl x) = none := by
      cases e : DD.getD kvs (.inl x) with
      | none => rfl
      | some d => rw [e] at c; exact absurd rfl c
    rw [rPut_di et1, putD_new c0]
    refine ⟨lt_line (by omega), fgt_self (q x _ c1 c2 c0 ?_ ?_ put_same)⟩
    · obtain ⟨ne, ts, g, r, e1, e2, e3⟩ := tl1
      exact ⟨ne, ts, g, r, by rw [put_ne (Ne.symm hta)]; exact e1, by rw [put_ne (Ne.symm htl)]; exact e2, e3⟩
    · intro y m hy e
      have hyt : y ≠ t := fun z => hy (by simp [z])
      rw [put_ne hyt]
      exact kp y m (fun z => hy (by simp only [List.mem_cons, List.not_mem_nil, or_false] at z ⊢; exact z.elim .inl fun h => .inr (.inl h))) e
end K53
end
section
open PySem PySem.Spec PyProof.Rows L2
set_option Elab.async false
set_option linter.all false
set_option maxRecDepth 100000
namespace K53
open DD
local macro_rules | `(tactic| walk_at "dd") => `(tactic| simp only [ev_seq, ev_next, ev_drop, ev_ret, ev_if, ev_asg, ev_bnm, ev_btp, ev_sac, ev_san, ev_par, ev_par3, ev_put, ev_yes, ev_rev, ev_newD, ev_var, ev_C, ev_op, ev_test, ev_chain, ev_andT, ev_orT, ev_notT, ev_and, ev_or, ev_not, ev_ifE, ev_nil, ev_cons, ev_tup, ev_lst, ev_un, ev_cb, ev_bm0, ev_bm, ev_sl, ev_noP, ev_part, ev_fgt, asB_bl, asI_int, asT_tup, as1_one, as2_two, rInt_ii, rInt0_ii, rAdd_ii, rAdd_tt, rEq_ii, rEq_ss, rNe_ii, rNeg_i, rIx_t, rLen_t, rAbs_i, rToInt_i, rToInt_b, rMax_ii, rMin_ii, rToTup_t, at0, at1, at2, at3, dwipe, List.getElem?_cons_zero, List.getElem?_cons_succ, Option.getD_some, List.set_cons_zero, List.set_cons_succ, List.length_cons, List.length_nil, decide_eq_true_eq, if_true, if_false, ite_true, ite_false, Bool.false_eq_true, reduceIte, Bool.not_true, Bool.not_false, and_true, true_and])
/-! the boxes of a floor -/
def lnK (ln : List Int) : List (Key × D) := ln.map fun i => (.inl i, .bl true)
theorem lnK_len (ln : List Int) : (lnK ln).length = ln.length := by unfold lnK; rw [List.length_map]
theorem lnK_none {ln : List Int} {c : Int} (h : DD.getD (lnK ln) (.inl c) = none) : c ∉ ln := by
  intro hc
  unfold DD.getD lnK at h
  rw [Option.map_eq_none_iff, List.find?_eq_none] at h
  have := h (.inl c, .bl true) (List.mem_map.mpr ⟨c, hc, rfl⟩)
  exact this (decide_eq_true rfl)
theorem lnK_app (ln : List Int) (c : Int) : lnK ln ++ [(.inl c, .bl true)] = lnK (ln ++ [c]) := by
  unfold lnK; rw [List.map_append]; rfl
theorem fresh_back {μ0 μ : Mu} {a l p : Addr} (tl : Tiler μ a l) (kp : Keep [a, l] μ0 μ) (h : μ p = none) : μ0 p = none := by
  obtain ⟨_, ts, g, r, e1, e2, _⟩ := tl
  cases e : μ0 p with
  | none => rfl
  | some m =>
    have := kp p m (fun z => by
      simp only [List.mem_cons, List.not_mem_nil, or_false] at z
      rcases z with z | z
      · rw [z, e1] at h; cases h
      · rw [z, e2] at h; cases h) e
    rw [h] at this; cases this
theorem Tiler.nea {μ : Mu} {a l p : Addr} (tl : Tiler μ a l) (h : μ p = none) : p ≠ a := fun z => by
  obtain ⟨_, ts, g, r, e1, e2, _⟩ := tl
  rw [z, e1] at h; cases h
theorem Tiler.nel {μ : Mu} {a l p : Addr} (tl : Tiler μ a l) (h : μ p = none) : p ≠ l := fun z => by
  obtain ⟨_, ts, g, r, e1, e2, _⟩ := tl
  rw [z, e2] at h; cases h
theorem Tiler.put {μ : Mu} {a l p : Addr} {m : MO} (tl : Tiler μ a l) (h1 : p ≠ a) (h2 : p ≠ l) : Tiler (DD.put μ p m) a l := by
  obtain ⟨ne, ts, g, r, e1, e2, e3⟩ := tl
  exact ⟨ne, ts, g, r, by rw [put_ne (Ne.symm h1)]; exact e1, by rw [put_ne (Ne.symm h2)]; exact e2, e3⟩
theorem Keep.put' {as : List Addr} {μ0 μ : Mu} {p : Addr} {m : MO} (kp : Keep as μ0 μ) (h : μ0 p = none) : Keep as μ0 (DD.put μ p m) := fun x n hx e => by
  have : x ≠ p := fun z => by rw [z, h] at e; cases e
  rw [put_ne this]; exact kp x n hx e
theorem Keep.at {as : List Addr} {μ μ' : Mu} {p : Addr} {m : MO} (kp : Keep as μ μ') (h : μ p = some m) (hp : p ∉ as) : μ' p = some m := kp p m hp h
theorem Keep.drop {a l t : Addr} {μ0 μ1 μ2 : Mu} (k1 : Keep [a, l] μ0 μ1) (k2 : Keep [a, l, t] μ1 μ2) (h : μ0 t = none) : Keep [a, l] μ0 μ2 := fun x n hx e => by
  have hxt : x ≠ t := fun z => by rw [z, h] at e; cases e
  exact k2 x n (fun z => hx (by simp only [List.mem_cons, List.not_mem_nil, or_false] at z ⊢; exact z.elim .inl fun z => z.elim .inr fun z => absurd z hxt)) (k1 x n hx e)
/-- two cuts in a row, sorted -/
theorem two_cuts {ta : DA} {s : DSt} {μ : Mu} {Q : DK} {a l t : Addr} {lo hi : Int} {ln : List Int} (tl : Tiler μ a l) (hta : t ≠ a) (htl : t ≠ l) (et : μ t = some (.dK (lnK ln))) (hn : ln.length ≤ 500) (h1 : 9000 ≤ hi - lo) (h2 : hi - lo < 2 ^ 60)
    (hs : ∀ i μ' R, R [.obj a, .int lo, .int hi, .obj t] μ' → ta ((dwipe s [14]).set 14 (some (.int i))) μ' R)
    (hq : ∀ c d cs p μ', lo < c → c < d → d < hi → (∀ x, x ∈ cs ↔ x = c ∨ x = d) → cs.length = 2 → μ p = none → Tiler μ' a l → Keep [a, l, t] μ μ' → μ' t = some (.dK (lnK (ln ++ cs))) → μ' p = some (.lst [.int c, .int d]) → Q (.obj p) μ') :
    dCB rSortedD (dCons (dLc (diR1 (dCons (dC (.int 2)) dNil)) (.nm 14) dYes (dCB S__law_cut ta) [14]) dNil) s μ Q := by
  rw [ev_cb, ev_cons, ev_lc]
  show Sm 2 ∧ _
  refine ⟨⟨by decide, by decide⟩, ?_⟩
  intro p hp
  have hpa := tl.nea hp
  have hpl := tl.nel hp
  have hpt : p ≠ t := fun z => by rw [z, et] at hp; cases hp
  refine ⟨fun i acc μ' => ∃ cs : List Int, acc = cs.map D.int ∧ cs.length = i ∧ i ≤ 2 ∧ cs.Nodup ∧ (∀ c ∈ cs, lo < c ∧ c < hi) ∧ Tiler μ' a l ∧ Keep [a, l, t] μ μ' ∧ μ' p = some (.lst acc) ∧ μ' t = some (.dK (lnK (ln ++ cs))), ⟨[], rfl, rfl, by decide, List.nodup_nil, (fun _ h => absurd h List.not_mem_nil), tl.put hpa hpl, Keep.new hp, put_same, ?_⟩, fun i acc μ' ⟨cs, _, _, _, _, _, _, _, e, _⟩ => ⟨e, True.intro⟩, fun i d acc μ' hd ⟨cs, ea, el, hi2, hnd, hb, tl1, kp1, ep1, et1⟩ => ?_, fun acc μ' ⟨cs, ea, el, hi2, hnd, hb, tl1, kp1, ep1, et1⟩ => ?_⟩
  · rw [put_ne (Ne.symm hpt), List.append_nil]; exact et
  · obtain ⟨hlt, rfl⟩ := rngD_get hd
    have hlt : i < 2 := hlt
    rw [ev_bnm, ev_yes, if_pos rfl, ev_cb]
    refine hs _ _ _ ?_
    refine ⟨a, l, lo, hi, t, _, rfl, tl1, hta, htl, et1, ?_, h2, ?_, fun c μ2 c1 c2 c3 tl2 kp2 et2 => ?_⟩
    · rw [lnK_len, List.length_append]; omega
    · rw [lnK_len, List.length_append]; omega
    · have hc := lnK_none c3
      have ep2 : μ2 p = some (.lst acc) := kp2 p _ (by simp [hpa, hpl, hpt]) ep1
      refine ⟨ep2, lt_line (by rw [ea, List.length_map]; omega), cs ++ [c], by rw [ea, List.map_append]; rfl, by rw [List.length_append, el]; rfl, by omega, ?_, ?_, tl2.put hpa hpl, (kp1.trans kp2).put' hp, put_same, ?_⟩
      · rw [List.nodup_append]
        refine ⟨hnd, List.nodup_cons.mpr ⟨List.not_mem_nil, List.nodup_nil⟩, fun x hx y hy e => ?_⟩
        rw [List.mem_singleton] at hy
        exact hc (List.mem_append_right _ (by rw [← hy, ← e]; exact hx))
      · intro x hx
        rcases List.mem_append.mp hx with hx | hx
        · exact hb x hx
        · rw [List.mem_singleton] at hx; rw [hx]; exact ⟨c1, c2⟩
      · rw [put_ne (Ne.symm hpt), et2, lnK_app, List.append_assoc]
  · have el : cs.length = 2 := el
    show rSortedD [.obj p] μ' Q
    refine ⟨(fun es z => nomatch z), .inl ⟨cs, by rw [seqD_l ep1, ea], fun ns p2 hpm hso hp2 => ?_⟩⟩
    have hl2 : ns.length = 2 := hpm.length_eq.trans el
    match ns, hl2 with
    | [c, d], _ =>
      have hnd2 : [c, d].Nodup := hpm.nodup_iff.mpr hnd
      have hle : c ≤ d := by
        have := List.rel_of_pairwise_cons hso (a' := d) (by simp)
        exact this
      have hne : c ≠ d := by
        have := (List.nodup_cons.mp hnd2).1
        simpa using this
      have hmem : ∀ x, x ∈ cs ↔ x = c ∨ x = d := fun x => by
        rw [← hpm.mem_iff]; simp
      have b1 := hb c ((hmem c).mpr (.inl rfl))
      have b2 := hb d ((hmem d).mpr (.inr rfl))
      have hp2a := tl1.nea hp2
      have hp2l := tl1.nel hp2
      have hp2t : p2 ≠ t := fun z => by rw [z, et1] at hp2; cases hp2
      have hp20 : μ p2 = none := by
        cases e : μ p2 with
        | none => rfl
        | some m =>
          have := kp1 p2 m (by simp [hp2a, hp2l, hp2t]) e
          rw [hp2] at this; cases this
      refine hq c d cs p2 _ b1.1 (by omega) b2.2 hmem el hp20 (tl1.put hp2a hp2l) (kp1.put' hp20) ?_ put_same
      rw [put_ne (Ne.symm hp2t)]; exact et1
theorem erase_map {α β : Type} (f : α → β) : ∀ (l : List α) (i : Nat), (l.map f).eraseIdx i = (l.eraseIdx i).map f
  | [], _ => rfl
  | _ :: _, 0 => rfl
  | x :: l, i + 1 => by
    show f x :: (l.map f).eraseIdx i = f x :: (l.eraseIdx i).map f
    rw [erase_map f l i]
theorem pull {α : Type} {b : α} : ∀ {l : List α} {j : Nat}, l[j]? = some b → l.Perm (b :: l.eraseIdx j)
  | [], _, h => by cases h
  | x :: l, 0, h => by cases h; exact List.Perm.refl _
  | x :: l, j + 1, h => by
    have := pull (l := l) (j := j) h
    exact (this.cons x).trans (List.Perm.swap _ _ _)
theorem first_ix {i : Int} : ∀ {ns : List Int}, i ∈ ns → ∃ j : Nat, ns[j]? = some i ∧ ∀ m, m < j → ns[m]? ≠ some i
  | x :: ns, h => by
    by_cases c : x = i
    · exact ⟨0, by rw [c]; rfl, fun m hm => absurd hm (Nat.not_lt_zero m)⟩
    · obtain ⟨j, h1, h2⟩ := first_ix (ns := ns) ((List.mem_cons.mp h).resolve_left (Ne.symm c))
      refine ⟨j + 1, h1, fun m hm => ?_⟩
      cases m with
      | zero => intro e; exact c (Option.some.inj e)
      | succ m => exact h2 m (Nat.lt_of_succ_lt_succ hm)
def ar (b : Box) : Int := b.e - b.w + b.n - b.s
theorem atI_lt {α : Type} {l : List α} {i : Int} (h0 : 0 ≤ i) (h : i < l.length) : ∃ x, atI l i = some x ∧ l[i.toNat]? = some x := by
  have hl : i.toNat < l.length := by omega
  refine ⟨l[i.toNat], ?_, List.getElem?_eq_getElem hl⟩
  have := atI_nat (xs := l) (j := i.toNat) (v := l[i.toNat]) (List.getElem?_eq_getElem hl)
  rw [← this]
  congr 1
  omega
theorem ixN_lt {n : Nat} {i : Int} (h0 : 0 ≤ i) (h : i < n) : ixN n i = some i.toNat := by
  unfold ixN
  rw [if_pos h0, if_pos h]
section
variable {E : DEnds} {a l tx ty pb pa : Addr} {m v f : Int} {L : List Box} {μ : Mu} {u7 u8 u9 u10 u11 u12 u13 u14 : Option D}
theorem rd_bx7 (eb : μ pb = some (.lst (L.map boxD))) (ea : μ pa = some (.lst ((L.map ar).map D.int))) (hbig : ∃ b ∈ L, 30000 < ar b) (hl : L.length ≤ 40) (hv : 0 ≤ v)
    (k : ∀ j b, L[j]? = some b → 30000 < ar b → t__law_boxes_6 E [some (.obj a), some (.int m), some (.int f), some (.obj pb), some (.tup [.obj tx, .obj ty]), some (.obj pa), some (.int v), some (boxD b), u8, u9, u10, u11, u12, u13, u14] (put μ pb (.lst ((L.eraseIdx j).map boxD)))) :
    t__law_boxes_7 E [some (.obj a), some (.int m), some (.int f), some (.obj pb), some (.tup [.obj tx, .obj ty]), some (.obj pa), some (.int v), u7, u8, u9, u10, u11, u12, u13, u14] μ := by
  unfold t__law_boxes_7
  walk_at "dd"
  rw [recv_l eb]
  refine ⟨rfl, ?_⟩
  rw [rLen_l eb]
  walk_at "dd"
  have go : ∀ (i : Int) b, 0 ≤ i → i < L.length → L[i.toNat]? = some b → 30000 < ar b → ∀ Q : DK, (Q (boxD b) (put μ pb (.lst ((L.eraseIdx i.toNat).map boxD)))) → rPopID (.obj pb) [.int i] μ Q := fun i b h0 h1 hb hbg Q q => by
    rw [rPopI_l eb]
    refine ⟨by omega, by omega, ?_⟩
    rw [List.length_map, ixN_lt h0 h1]
    dsimp only
    rw [List.getElem?_map, hb, erase_map]
    exact q
  have hmx : (if 1 = 1 then recv "list" (.obj pa) μ else True) := by rw [if_pos rfl, recv_l ea]
  rw [if_pos rfl] at hmx
  have oth : ∀ R : D → Mu → Prop, (∀ (i : Int) b, 0 ≤ i → i < L.length → L[i.toNat]? = some b → 30000 < ar b → R (.int i) μ) → recv "list" (.obj pa) μ ∧ rMaxD [.obj pa] μ fun x μ1 => rIndexID (.obj pa) [x] μ1 fun x μ1 => R x μ1 := fun R hR => by
    refine ⟨hmx, ?_⟩
    show asSeq (.obj pa) μ fun es => (∀ xs, D.obj pa ≠ .tup xs) ∧ _
    unfold asSeq
    rw [seqD_l ea]
    refine ⟨(fun xs z => nomatch z), L.map ar, rfl, ?_, fun mx hm hmax => ?_⟩
    · obtain ⟨b, hb, _⟩ := hbig
      intro z
      rw [List.map_eq_nil_iff] at z
      rw [z] at hb; cases hb
    · obtain ⟨j, hj, hjm⟩ := first_ix hm
      have hj2 := hj
      rw [List.getElem?_map] at hj2
      obtain ⟨b, hb, eb2⟩ := Option.map_eq_some_iff.mp hj2
      have hjl : j < L.length := (List.getElem?_eq_some_iff.mp hb).1
      unfold rIndexID as1 asI asL
      simp only [ea]
      refine ⟨_, j, rfl, hj, hjm, hR (j : Int) b (by omega) (by omega) hb ?_⟩
      obtain ⟨b0, hb0, h0⟩ := hbig
      have := hmax (ar b0) (List.mem_map.mpr ⟨b0, hb0, rfl⟩)
      omega
  have fin : ∀ (i : Int) b, 0 ≤ i → i < L.length → L[i.toNat]? = some b → 30000 < ar b → rPopID (.obj pb) [.int i] μ fun d μ1 => t__law_boxes_6 E [some (.obj a), some (.int m), some (.int f), some (.obj pb), some (.tup [.obj tx, .obj ty]), some (.obj pa), some (.int v), some d, u8, u9, u10, u11, u12, u13, u14] μ1 := fun i b h0 h1 hb hbg => go i b h0 h1 hb hbg _ (k _ b hb hbg)
  rw [List.length_map]
  refine ite2 (fun c => ?_) (fun c => ?_)
  · rw [rIx_l ea]
    obtain ⟨x, h1, h2⟩ := atI_lt (l := (L.map ar).map D.int) hv (by simpa using c)
    rw [h1]
    rw [List.getElem?_map, List.getElem?_map] at h2
    obtain ⟨y, h3, rfl⟩ := Option.map_eq_some_iff.mp h2
    obtain ⟨b, hb, rfl⟩ := Option.map_eq_some_iff.mp h3
    dsimp only
    walk_at "dd"
    refine ite2 (fun c2 => fin v b hv c hb c2) (fun c2 => oth _ fin)
  · exact oth _ fin
end
/-- what stands while boxes are cut -/
structure Stn (a l : Addr) (μ0 : Mu) (pb tx ty : Addr) (lx ly : List Int) (L : List Box) (μ : Mu) : Prop where
  tl : Tiler μ a l
  kp : Keep [a, l] μ0 μ
  nx : μ0 tx = none ∧ tx ≠ a ∧ tx ≠ l
  ny : μ0 ty = none ∧ ty ≠ a ∧ ty ≠ l
  nxy : tx ≠ ty
  nb : μ0 pb = none ∧ pb ≠ a ∧ pb ≠ l
  eb : μ pb = some (.lst (L.map boxD))
  ex : μ tx = some (.dK (lnK lx))
  ey : μ ty = some (.dK (lnK ly))
theorem Stn.tile {a l pb tx ty : Addr} {μ0 μ μ' : Mu} {lx ly : List Int} {L : List Box} (z : Stn a l μ0 pb tx ty lx ly L μ) (tl : Tiler μ' a l) (kp : Keep [a, l] μ μ') : Stn a l μ0 pb tx ty lx ly L μ' :=
  ⟨tl, z.kp.trans kp, z.nx, z.ny, z.nxy, z.nb, kp.at z.eb (by simp [z.nb.2]), kp.at z.ex (by simp [z.nx.2]), kp.at z.ey (by simp [z.ny.2])⟩
theorem Stn.new {a l pb tx ty p : Addr} {μ0 μ : Mu} {lx ly : List Int} {L : List Box} {m : MO} (z : Stn a l μ0 pb tx ty lx ly L μ) (h : μ p = none) : Stn a l μ0 pb tx ty lx ly L (put μ p m) :=
  ⟨z.tl.put (z.tl.nea h) (z.tl.nel h), z.kp.put' (fresh_back z.tl z.kp h), z.nx, z.ny, z.nxy, z.nb, put_old z.eb h, put_old z.ex h, put_old z.ey h⟩
theorem Stn.lst {a l pb tx ty p : Addr} {μ0 μ : Mu} {lx ly : List Int} {L L' : List Box} (z : Stn a l μ0 pb tx ty lx ly L μ) (h : μ p = none) : Stn a l μ0 p tx ty lx ly L' (put μ p (.lst (L'.map boxD))) :=
  ⟨z.tl.put (z.tl.nea h) (z.tl.nel h), z.kp.put' (fresh_back z.tl z.kp h), z.nx, z.ny, z.nxy, ⟨fresh_back z.tl z.kp h, z.tl.nea h, z.tl.nel h⟩, put_same, put_old z.ex h, put_old z.ey h⟩
theorem Stn.pop {a l pb tx ty : Addr} {μ0 μ : Mu} {lx ly : List Int} {L L' : List Box} (z : Stn a l μ0 pb tx ty lx ly L μ) : Stn a l μ0 pb tx ty lx ly L' (put μ pb (.lst (L'.map boxD))) := by
  have h1 : tx ≠ pb := fun e => by have := z.ex; rw [e, z.eb] at this; cases this
  have h2 : ty ≠ pb := fun e => by have := z.ey; rw [e, z.eb] at this; cases this
  exact ⟨z.tl.put z.nb.2.1 z.nb.2.2, z.kp.put' z.nb.1, z.nx, z.ny, z.nxy, z.nb, put_same, by rw [put_ne h1]; exact z.ex, by rw [put_ne h2]; exact z.ey⟩
theorem Stn.cutx {a l pb tx ty : Addr} {μ0 μ μ' : Mu} {lx ly lx' : List Int} {L : List Box} (z : Stn a l μ0 pb tx ty lx ly L μ) (tl : Tiler μ' a l) (kp : Keep [a, l, tx] μ μ') (e : μ' tx = some (.dK (lnK lx'))) : Stn a l μ0 pb tx ty lx' ly L μ' := by
  have h1 : pb ≠ tx := fun e => by have := z.ex; rw [← e, z.eb] at this; cases this
  exact ⟨tl, z.kp.drop kp z.nx.1, z.nx, z.ny, z.nxy, z.nb, kp.at z.eb (by simp [z.nb.2, h1]), e, kp.at z.ey (by simp [z.ny.2, Ne.symm z.nxy])⟩
theorem Stn.cuty {a l pb tx ty : Addr} {μ0 μ μ' : Mu} {lx ly ly' : List Int} {L : List Box} (z : Stn a l μ0 pb tx ty lx ly L μ) (tl : Tiler μ' a l) (kp : Keep [a, l, ty] μ μ') (e : μ' ty = some (.dK (lnK ly'))) : Stn a l μ0 pb tx ty lx ly' L μ' := by
  have h1 : pb ≠ ty := fun e => by have := z.ey; rw [← e, z.eb] at this; cases this
  exact ⟨tl, z.kp.drop kp z.ny.1, z.nx, z.ny, z.nxy, z.nb, kp.at z.eb (by simp [z.nb.2, h1]), kp.at z.ex (by simp [z.nx.2, z.nxy]), e⟩
theorem c4a (w s e n : D) : cutD [w, s, e, n] none (some (0 + 2)) = [w, s] := by rfl
theorem c4b (w s e n : D) : cutD [w, s, e, n] (some (0 + 3)) none = [n] := by rfl
theorem c4c (w s e n : D) : cutD [w, s, e, n] none (some 0) = [] := by rfl
theorem c4d (w s e n : D) : cutD [w, s, e, n] (some (0 + 1)) none = [s, e, n] := by rfl
theorem c4e (w s e n : D) : cutD [w, s, e, n] none (some (1 + 2)) = [w, s, e] := by rfl
theorem c4f (w s e n : D) : cutD [w, s, e, n] (some (1 + 3)) none = [] := by rfl
theorem c4g (w s e n : D) : cutD [w, s, e, n] none (some 1) = [w] := by rfl
theorem c4h (w s e n : D) : cutD [w, s, e, n] (some (1 + 1)) none = [e, n] := by rfl
theorem pm2 {x y : Box} {r : List Box} : (x :: y :: r).Perm (r ++ [x, y]) := List.perm_append_comm (l₁ := [x, y]) (l₂ := r)
theorem lt2 {r : List Box} {m : Int} {x y : D} (h1 : (r.length : Int) + 2 ≤ m) (h2 : m ≤ 40) : (r.map boxD).length + [x, y].length ≤ sizeLine := le_line (by rw [List.length_map, List.length_cons, List.length_singleton]; omega)
theorem far_lt : far0 < 2 ^ 59 := by decide
/-- what the rest of a turn is to reach -/
def Rch (E : DEnds) (a l : Addr) (μ0 : Mu) (m f : Int) (tx ty : Addr) (k : Nat) : Prop := ∀ pb lx ly L u5 u6 u7 u8 u9 u10 u11 u12 u13 u14 μ, Stn a l μ0 pb tx ty lx ly L μ → Floor far0 lx ly L → k < L.length → (L.length : Int) ≤ m → lx.length ≤ L.length + 1 → ly.length ≤ L.length + 1 →
  E.nx [some (.obj a), some (.int m), some (.int f), some (.obj pb), some (.tup [.obj tx, .obj ty]), u5, u6, u7, u8, u9, u10, u11, u12, u13, u14] μ
section
variable {E : DEnds} {a l tx ty pb : Addr} {μ0 μ : Mu} {m f : Int} {lx ly : List Int} {r : List Box} {b : Box} {u5 u6 u8 u9 u10 u11 u12 u13 u14 : Option D}
theorem rd_single {z : Int} (hz : z = 0 ∧ 9000 ≤ b.e - b.w ∨ z = 1 ∧ 9000 ≤ b.n - b.s) (st : Stn a l μ0 pb tx ty lx ly r μ) (fl : Floor far0 lx ly (b :: r)) (hm : (r.length : Int) + 2 ≤ m) (hm40 : m ≤ 40) (hx : lx.length ≤ r.length + 2) (hy : ly.length ≤ r.length + 2) (R : Rch E a l μ0 m f tx ty (r.length + 1)) :
    dSeq (dAsg (dCB S__law_cut (dCons (dVar 0) (dCons (dOp rIxD (dVar 7) (dVar 10)) (dCons (dOp rIxD (dVar 7) (dOp rAddD (dVar 10) (dC (.int 2)))) (dCons (dOp rIxD (dVar 4) (dVar 10)) dNil))))) (.nm 13)) t__law_boxes_3 E [some (.obj a), some (.int m), some (.int f), some (.obj pb), some (.tup [.obj tx, .obj ty]), u5, u6, some (boxD b), u8, u9, some (.int z), u11, u12, u13, u14] μ := by
  unfold t__law_boxes_3
  have hin := fl.own.inn b List.mem_cons_self
  have hfar := far_lt
  rcases hz with ⟨rfl, hz⟩ | ⟨rfl, hz⟩
  · unfold boxD
    walk_at "dd"
    refine ⟨a, l, b.w, b.e, tx, lnK lx, rfl, st.tl, st.nx.2.1, st.nx.2.2, st.ex, by rw [lnK_len]; omega, by omega, by rw [lnK_len]; omega, fun c μ1 c1 c2 c3 tl1 kp1 ex1 => ?_⟩
    rw [lnK_app] at ex1
    have st1 := st.cutx tl1 kp1 ex1
    simp only [rSl_t, rAdd_tt, c4a, c4b, c4c, c4d, List.cons_append, List.nil_append, List.length_cons, List.length_nil]
    refine ⟨le_line (by decide), le_line (by decide), le_line (by decide), le_line (by decide), le_line (by decide), le_line (by decide), le_line (by decide), fun p hp => ?_⟩
    rw [rAdd_ll]
    refine ⟨r.map boxD, [boxD ⟨b.w, b.s, c, b.n⟩, boxD ⟨c, b.s, b.e, b.n⟩], put_old st1.eb hp, put_same, lt2 hm hm40, fun p2 hp2 => ?_⟩
    have e : r.map boxD ++ [boxD ⟨b.w, b.s, c, b.n⟩, boxD ⟨c, b.s, b.e, b.n⟩] = (r ++ [(⟨b.w, b.s, c, b.n⟩ : Box), ⟨c, b.s, b.e, b.n⟩]).map boxD := by rw [List.map_append]; rfl
    rw [e]
    refine R p2 (lx ++ [c]) ly _ _ _ _ _ _ _ _ _ _ _ _ ((st1.new hp).lst hp2) ((fl.cutV (w := b.w) (s := b.s) (e := b.e) (n := b.n) c1 c2).perm pm2) ?_ ?_ ?_ ?_
    all_goals simp only [List.length_append, List.length_cons, List.length_nil]; omega
  · unfold boxD
    walk_at "dd"
    refine ⟨a, l, b.s, b.n, ty, lnK ly, rfl, st.tl, st.ny.2.1, st.ny.2.2, st.ey, by rw [lnK_len]; omega, by omega, by rw [lnK_len]; omega, fun c μ1 c1 c2 c3 tl1 kp1 ey1 => ?_⟩
    rw [lnK_app] at ey1
    have st1 := st.cuty tl1 kp1 ey1
    simp only [rSl_t, rAdd_tt, c4e, c4f, c4g, c4h, List.cons_append, List.nil_append, List.length_cons, List.length_nil]
    refine ⟨le_line (by decide), le_line (by decide), le_line (by decide), le_line (by decide), le_line (by decide), le_line (by decide), le_line (by decide), fun p hp => ?_⟩
    rw [rAdd_ll]
    refine ⟨r.map boxD, [boxD ⟨b.w, b.s, b.e, c⟩, boxD ⟨b.w, c, b.e, b.n⟩], put_old st1.eb hp, put_same, lt2 hm hm40, fun p2 hp2 => ?_⟩
    have e : r.map boxD ++ [boxD ⟨b.w, b.s, b.e, c⟩, boxD ⟨b.w, c, b.e, b.n⟩] = (r ++ [(⟨b.w, b.s, b.e, c⟩ : Box), ⟨b.w, c, b.e, b.n⟩]).map boxD := by rw [List.map_append]; rfl
    rw [e]
    refine R p2 lx (ly ++ [c]) _ _ _ _ _ _ _ _ _ _ _ _ ((st1.new hp).lst hp2) ((fl.cutH (w := b.w) (s := b.s) (e := b.e) (n := b.n) c1 c2).perm pm2) ?_ ?_ ?_ ?_
    all_goals simp only [List.length_append, List.length_cons, List.length_nil]; omega
theorem rd_mill (h1 : 9000 ≤ b.e - b.w) (h2 : 9000 ≤ b.n - b.s) (st : Stn a l μ0 pb tx ty lx ly r μ) (fl : Floor far0 lx ly (b :: r)) (hm : (r.length : Int) + 5 ≤ m) (hm40 : m ≤ 40) (hx : lx.length ≤ r.length + 2) (hy : ly.length ≤ r.length + 2) (R : Rch E a l μ0 m f tx ty (r.length + 1)) :
    dSeq (dAsg (dCB rSortedD (dCons (dLc (diR1 (dCons (dC (.int 2)) dNil)) (.nm 14) dYes (dCB S__law_cut (dCons (dVar 0) (dCons (dOp rIxD (dVar 7) (dC (.int 0))) (dCons (dOp rIxD (dVar 7) (dC (.int 2))) (dCons (dOp rIxD (dVar 4) (dC (.int 0))) dNil))))) [14]) dNil)) (.nm 11)) t__law_boxes_2 E [some (.obj a), some (.int m), some (.int f), some (.obj pb), some (.tup [.obj tx, .obj ty]), u5, u6, some (boxD b), u8, u9, u10, u11, u12, u13, u14] μ := by
  have hin := fl.own.inn b List.mem_cons_self
  have hfar := far_lt
  unfold t__law_boxes_2 boxD
  rw [ev_seq, ev_asg]
  refine two_cuts (lo := b.w) (hi := b.e) st.tl st.nx.2.1 st.nx.2.2 st.ex (by omega) h1 (by omega) (fun i μ' R h => ?_) (fun x0 x1 cs px μ1 a1 a2 a3 hcs hcl hpx tl1 kp1 ex1 ep1 => ?_)
  · walk_at "dd"
    exact h
  have st1 := st.cutx tl1 kp1 ex1
  have px1 := st.tl.nea hpx
  have px2 := st.tl.nel hpx
  have px3 : px ≠ ty := fun z => by rw [z, st1.ey] at ep1; cases ep1
  rw [ev_bnm]
  dsimp only [List.set_cons_succ, List.set_cons_zero]
  rw [ev_seq, ev_asg]
  refine two_cuts (lo := b.s) (hi := b.n) st1.tl st1.ny.2.1 st1.ny.2.2 st1.ey (by omega) h2 (by omega) (fun i μ' R h => ?_) (fun y0 y1 ds py μ2 b1 b2 b3 hds hdl hpy tl2 kp2 ey2 ep2 => ?_)
  · walk_at "dd"
    exact h
  have st2 := st1.cuty tl2 kp2 ey2
  have ep1' := kp2.at ep1 (by simp [px1, px2, px3])
  rw [ev_bnm]
  unfold t__law_boxes_1
  dsimp only [List.set_cons_succ, List.set_cons_zero]
  walk_at "dd"
  simp only [rIx_l ep1', rIx_l ep2, at0, at1]
  refine ⟨le_line (by decide), le_line (by decide), le_line (by decide), le_line (by decide), le_line (by decide), le_line (by decide), fun p hp => ?_⟩
  rw [rAdd_ll]
  refine ⟨r.map boxD, [boxD ⟨b.w, y0, x0, b.n⟩, boxD ⟨x0, y1, b.e, b.n⟩, boxD ⟨x1, b.s, b.e, y1⟩, boxD ⟨b.w, b.s, x1, y0⟩, boxD ⟨x0, y0, x1, y1⟩], put_old st2.eb hp, put_same, le_line (by rw [List.length_map]; show r.length + 5 ≤ 1000; omega), fun p2 hp2 => ?_⟩
  have e : r.map boxD ++ [boxD ⟨b.w, y0, x0, b.n⟩, boxD ⟨x0, y1, b.e, b.n⟩, boxD ⟨x1, b.s, b.e, y1⟩, boxD ⟨b.w, b.s, x1, y0⟩, boxD ⟨x0, y0, x1, y1⟩] = (r ++ [(⟨b.w, y0, x0, b.n⟩ : Box), ⟨x0, y1, b.e, b.n⟩, ⟨x1, b.s, b.e, y1⟩, ⟨b.w, b.s, x1, y0⟩, ⟨x0, y0, x1, y1⟩]).map boxD := by rw [List.map_append]; rfl
  rw [e]
  have fl2 := Floor.mill (w := b.w) (s := b.s) (e := b.e) (n := b.n) a1 a2 a3 b1 b2 b3 fl (lx' := lx ++ cs) (ly' := ly ++ ds) (fun x => by rw [List.mem_append, hcs]) (fun x => by rw [List.mem_append, hds])
  refine R p2 (lx ++ cs) (ly ++ ds) _ _ _ _ _ _ _ _ _ _ _ _ ((st2.new hp).lst hp2) (fl2.perm (List.perm_append_comm (l₁ := [_, _, _, _, _]) (l₂ := r))) ?_ ?_ ?_ ?_
  all_goals simp only [List.length_append, List.length_cons, List.length_nil]; omega
theorem rd_bx6 (hbig : 30000 < ar b) (st : Stn a l μ0 pb tx ty lx ly r μ) (fl : Floor far0 lx ly (b :: r)) (hm : (r.length : Int) + 2 ≤ m) (hm40 : m ≤ 40) (hx : lx.length ≤ r.length + 2) (hy : ly.length ≤ r.length + 2) (R : Rch E a l μ0 m f tx ty (r.length + 1)) :
    t__law_boxes_6 E [some (.obj a), some (.int m), some (.int f), some (.obj pb), some (.tup [.obj tx, .obj ty]), u5, u6, some (boxD b), u8, u9, u10, u11, u12, u13, u14] μ := by
  have hbg : 30000 < b.e - b.w + b.n - b.s := hbig
  have big : ∀ z μ', (z = 0 ∧ 9000 ≤ b.e - b.w ∨ z = 1 ∧ 9000 ≤ b.n - b.s) → Tiler μ' a l → Keep [a, l] μ μ' → t__law_boxes_4 E [some (.obj a), some (.int m), some (.int f), some (.obj pb), some (.tup [.obj tx, .obj ty]), u5, u6, some (boxD b), some (.int (b.e - b.w)), some (.int (b.n - b.s)), some (.int z), u11, u12, u13, u14] μ' := fun z μ1 hz tl1 kp1 => by
    have st1 := st.tile tl1 kp1
    have hc : ∀ Q : Bool → Mu → Prop, (∀ μ', Tiler μ' a l → Keep [a, l] μ1 μ' → Q false μ') → (4 < m - r.length → 9000 < min (b.e - b.w) (b.n - b.s) → ∀ μ', Tiler μ' a l → Keep [a, l] μ1 μ' → Q true μ') →
        dAndT (dTest (dOp rGtD (dOp rSubD (dVar 1) (dCB rLenD (dCons (dVar 3) dNil))) (dC (.int 4)))) (dAndT (dTest (dOp rGtD (dCB rMinD (dCons (dVar 8) (dCons (dVar 9) dNil))) (dC (.int 9000)))) (dTest (dOp rEqD (dCB S__law_tile (dCons (dVar 0) (dCons (dC (.int 3)) dNil))) (dC (.int 0))))) [some (.obj a), some (.int m), some (.int f), some (.obj pb), some (.tup [.obj tx, .obj ty]), u5, u6, some (boxD b), some (.int (b.e - b.w)), some (.int (b.n - b.s)), some (.int z), u11, u12, u13, u14] μ1 Q := fun Q q1 q2 => by
      walk_at "dd"
      rw [rLen_l st1.eb]
      walk_at "dd"
      rw [List.length_map]
      refine ite2 (fun c1 => ite2 (fun c2 => ?_) fun _ => ?_) fun _ => ?_
      · refine ⟨a, l, 3, rfl, tl1, by decide, fun v μ2 tl2 kp2 _ _ => ?_⟩
        walk_at "dd"
        cases decide (v = 0) with
        | true => exact q2 c1 c2 μ2 tl2 kp2
        | false => exact q1 μ2 tl2 kp2
      · exact q1 μ1 tl1 (Keep.refl _ _)
      · exact q1 μ1 tl1 (Keep.refl _ _)
    unfold t__law_boxes_4
    rw [ev_if]
    refine hc _ (fun μ2 tl2 kp2 => ?_) (fun c1 c2 μ2 tl2 kp2 => ?_)
    · rw [if_neg Bool.false_ne_true]
      exact rd_single hz (st1.tile tl2 kp2) fl hm hm40 hx hy R
    · rw [if_pos rfl]
      exact rd_mill (by omega) (by omega) (st1.tile tl2 kp2) fl (by omega) hm40 hx hy R
  have eb : boxD b = .tup [.int b.w, .int b.s, .int b.e, .int b.n] := rfl
  unfold t__law_boxes_6
  rw [eb]
  walk_at "dd"
  unfold t__law_boxes_5
  walk_at "dd"
  refine ite2 (fun c => ?_) fun c => ?_
  · refine big _ μ ?_ st.tl (Keep.refl _ _)
    by_cases d : b.e - b.w < b.n - b.s
    · rw [if_pos d]; exact .inr ⟨rfl, by omega⟩
    · rw [if_neg d]; exact .inl ⟨rfl, by omega⟩
  · refine ⟨a, l, 2, rfl, st.tl, by decide, fun v μ2 tl2 kp2 v0 v1 => ?_⟩
    refine big v μ2 ?_ tl2 kp2
    have : v = 0 ∨ v = 1 := by omega
    rcases this with rfl | rfl
    · exact .inl ⟨rfl, by omega⟩
    · exact .inr ⟨rfl, by omega⟩
end
theorem dk2 : mergeD [] [((.inl 0 : Key), D.bl true), (.inl far0, .bl true)] = lnK [0, far0] := by rfl
theorem shl28 : (1 : Int) * 2 ^ (28 : Int).toNat = far0 := by decide
theorem keys2 (f : Int) : keysD [(.int 0, .bl true), (.int f, .bl true)] = some [((.inl 0 : Key), D.bl true), (.inl f, .bl true)] := by rfl
theorem rd__law_boxes (ds : List D) (μ : Mu) (Q : DK) (h : S__law_boxes ds μ Q) : t__law_boxes (En Q) (dstart N__law_boxes ds) μ := by
  obtain ⟨a, l, m, rfl, tl, hm1, hm40, q⟩ := h
  show t__law_boxes _ [some (.obj a), some (.int m), none, none, none, none, none, none, none, none, none, none, none, none, none] μ
  unfold t__law_boxes
  walk_at "dd"
  refine ⟨⟨by decide, by decide⟩, ?_⟩
  rw [shl28]
  unfold t__law_boxes_11
  walk_at "dd"
  refine ⟨le_line (by decide), le_line (by decide), fun pb hpb => ?_⟩
  rw [ev_disp]
  intro tx htx
  simp only [ev_pcons, ev_pnil]
  walk_at "dd"
  rw [keys2]
  refine ⟨put_same, (show 2 ≤ 15 by decide), ?_⟩
  rw [dk2, put_put, ev_disp]
  intro ty hty
  simp only [ev_pcons, ev_pnil]
  walk_at "dd"
  rw [keys2]
  refine ⟨put_same, (show 2 ≤ 15 by decide), ?_⟩
  rw [dk2, put_put]
  refine ⟨le_line (by decide), le_line (by decide), ?_⟩
  have st0 : Stn a l μ pb tx ty [0, far0] [0, far0] [⟨0, 0, far0, far0⟩] (put (put (put μ pb (.lst [D.tup [.int 0, .int 0, .int far0, .int far0]])) tx (.dK (lnK [0, far0]))) ty (.dK (lnK [0, far0]))) := by
    have t1 := tl.put (m := .lst [D.tup [.int 0, .int 0, .int far0, .int far0]]) (tl.nea hpb) (tl.nel hpb)
    have k1 : Keep [a, l] μ (put μ pb (.lst [D.tup [.int 0, .int 0, .int far0, .int far0]])) := Keep.new hpb
    have n1 : pb ≠ tx := ne_new put_same htx
    have t2 := t1.put (m := .dK (lnK [0, far0])) (t1.nea htx) (t1.nel htx)
    have n2 : tx ≠ ty := ne_new put_same hty
    have n3 : pb ≠ ty := ne_new (put_old put_same htx) hty
    have k2 := k1.put' (m := .dK (lnK [0, far0])) (fresh_back t1 k1 htx)
    refine ⟨t2.put (t2.nea hty) (t2.nel hty), k2.put' (fresh_back t2 k2 hty), ⟨fresh_back t1 k1 htx, t1.nea htx, t1.nel htx⟩, ⟨fresh_back t2 k2 hty, t2.nea hty, t2.nel hty⟩, n2, ⟨hpb, tl.nea hpb, tl.nel hpb⟩, ?_, ?_, put_same⟩
    · rw [put_ne n3, put_ne n1]; exact put_same
    · rw [put_ne n2]; exact put_same
  generalize put (put (put μ pb (.lst [D.tup [.int 0, .int 0, .int far0, .int far0]])) tx (.dK (lnK [0, far0]))) ty (.dK (lnK [0, far0])) = μ1 at st0
  unfold t__law_boxes_10
  rw [ev_seq]
  refine ⟨fun k s μ' => ∃ pb lx ly L u5 u6 u7 u8 u9 u10 u11 u12 u13 u14, s = [some (.obj a), some (.int m), some (.int far0), some (.obj pb), some (.tup [.obj tx, .obj ty]), u5, u6, u7, u8, u9, u10, u11, u12, u13, u14] ∧ Stn a l μ pb tx ty lx ly L μ' ∧ Floor far0 lx ly L ∧ 1 ≤ L.length ∧ (L.length : Int) ≤ m ∧ lx.length ≤ L.length + 1 ∧ ly.length ≤ L.length + 1 ∧ k = 40 - L.length,
    ⟨_, pb, _, _, _, _, _, _, _, _, _, _, _, _, _, rfl, st0, Floor.start (by decide), Nat.le_refl _, hm1, Nat.le_refl _, Nat.le_refl _, rfl⟩, ?_⟩
  rintro k s μ2 ⟨pb, lx, ly, L, u5, u6, u7, u8, u9, u10, u11, u12, u13, u14, rfl, st, fl, hl1, hlm, hx, hy, rfl⟩
  walk_at "dd"
  rw [rLen_l st.eb]
  walk_at "dd"
  rw [List.length_map]
  have hl40 : L.length ≤ 40 := by omega
  refine ite2 (fun c => ?_) (fun c => ?_)
  · rw [ev_lc, ev_diSeq, ev_var]
    show seqI (.obj pb) μ2 _
    rw [seqI_obj st.eb]
    refine lcB_map L boxD (fun b => .int (ar b)) rfl (fun p acc hp => put_old st.eb hp) (lt_line (by omega)) (fun b hb μ' R h => ?_) (fun pa hpa => ?_)
    · unfold boxD
      walk_at "dd"
      exact h
    · have st1 := st.new (m := .lst (L.map fun b => D.int (ar b))) hpa
      have ea1 : put μ2 pa (.lst (L.map fun b => D.int (ar b))) pa = some (.lst ((L.map ar).map D.int)) := by rw [put_same, List.map_map]; rfl
      generalize put μ2 pa (.lst (L.map fun b => D.int (ar b))) = μ3 at st1 ea1
      have npa : pa ≠ a := st.tl.nea hpa
      have npl : pa ≠ l := st.tl.nel hpa
      unfold t__law_boxes_8
      walk_at "dd"
      rw [rLen_l st1.eb]
      walk_at "dd"
      refine ⟨DD.MulOk.l ⟨by decide, by decide⟩, a, l, _, rfl, st1.tl, by rw [List.length_map]; omega, fun v μ4 tl4 kp4 v0 _ => ?_⟩
      have st4 := st1.tile tl4 kp4
      have ea4 := kp4.at ea1 (by simp [npa, npl])
      walk_at "dd"
      refine rd_bx7 st4.eb ea4 (fl.own.great hl40) hl40 v0 (fun j b hb hbig => ?_)
      have pm := pull hb
      have hlen := pm.length_eq
      rw [List.length_cons] at hlen
      refine rd_bx6 hbig st4.pop (fl.perm pm) (by omega) hm40 (by omega) (by omega) ?_
      intro pb' lx' ly' L' w5 w6 w7 w8 w9 w10 w11 w12 w13 w14 μ5 st5 fl5 hk hm' hx' hy'
      exact ⟨40 - L'.length, by omega, pb', lx', ly', L', w5, w6, w7, w8, w9, w10, w11, w12, w13, w14, rfl, st5, fl5, by omega, hm', hx', hy', rfl⟩
  · unfold t__law_boxes_9
    walk_at "dd"
    exact fgt_self (q pb L μ2 st.nb.1 st.tl st.kp st.eb ⟨by omega, lx, ly, hx, hy, fl⟩)
end K53
end
section
open PySem PySem.Spec PyProof.Rows L2
set_option Elab.async false
set_option linter.all false
set_option maxRecDepth 100000
namespace K53
open DD
local macro_rules | `(tactic| walk_at "dd") => `(tactic| simp only [ev_seq, ev_next, ev_drop, ev_ret, ev_if, ev_asg, ev_bnm, ev_btp, ev_sac, ev_san, ev_par, ev_par3, ev_put, ev_yes, ev_rev, ev_newD, ev_var, ev_C, ev_op, ev_test, ev_chain, ev_andT, ev_orT, ev_notT, ev_and, ev_or, ev_not, ev_ifE, ev_nil, ev_cons, ev_tup, ev_lst, ev_un, ev_cb, ev_bm0, ev_bm, ev_sl, ev_noP, ev_part, ev_fgt, asB_bl, asI_int, asT_tup, as1_one, as2_two, rInt_ii, rInt0_ii, rAdd_ii, rAdd_tt, rEq_ii, rEq_ss, rNe_ii, rNeg_i, rIx_t, rLen_t, rAbs_i, rToInt_i, rToInt_b, rMax_ii, rMin_ii, rToTup_t, at0, at1, at2, at3, dwipe, List.getElem?_cons_zero, List.getElem?_cons_succ, Option.getD_some, List.set_cons_zero, List.set_cons_succ, List.length_cons, List.length_nil, decide_eq_true_eq, if_true, if_false, ite_true, ite_false, Bool.false_eq_true, reduceIte, Bool.not_true, Bool.not_false, and_true, true_and])
/-! names -/
def dig (s : Str) : List Nat := s.cps.toList.filter fun c => decide (48 ≤ c ∧ c ≤ 57)
theorem dig_app (a b : Str) : dig (a ++ b) = dig a ++ dig b := by
  have e : (a ++ b).cps.toList = a.cps.toList ++ b.cps.toList := Array.toList_append
  unfold dig
  rw [e, List.filter_append]
def numS (i : Nat) : Str := Str.ofString (toString (i : Int))
def digN : List (List Nat) := (List.range 40).map fun i => dig (numS i)
theorem digN_nd : digN.Nodup := by decide +kernel
theorem numS_len : ∀ i < 40, (numS i).length ≤ 9 := by decide +kernel
theorem num_log : ∀ i : Nat, i < 40 → (Int.natAbs (i : Int)).log2 < 1920 := fun i h => by
  have e : Int.natAbs (i : Int) = i := rfl
  rw [e]
  have : i.log2 ≤ 5 := by
    by_cases c : i = 0
    · subst c; decide
    · exact Nat.le_of_lt_succ ((Nat.log2_lt c).mpr (by omega))
  omega
def letD : Str := "aghkmrtz"
theorem let_at : ∀ v < 8, ∃ c, letD.cps.toList[v]? = some c ∧ dig ⟨#[c]⟩ = [] := by decide +kernel
theorem let_len : letD.length = 8 ∧ letD.cps.toList.length = 8 := by decide +kernel
def mids : List Str := ["", "stair", "j"]
theorem mid_ok : ∀ z ∈ mids, dig z = [] ∧ z.length ≤ 5 := by decide +kernel
theorem nodup_of_map {α β : Type} (f : α → β) {l : List α} (h : (l.map f).Nodup) : l.Nodup := by
  rw [List.Nodup, List.pairwise_map] at h
  exact h.imp fun h e => h (congrArg f e)
/-! the dict of the lines -/
theorem lnK_put {acc : List Int} (i : Int) : ∃ acc', putD (lnK acc) (.inl i) (.bl true) = lnK acc' ∧ (acc.Nodup → acc'.Nodup) ∧ ∀ x, x ∈ acc' ↔ x ∈ acc ∨ x = i := by
  by_cases c : i ∈ acc
  · refine ⟨acc, ?_, fun h => h, fun x => ⟨.inl, fun h => h.elim id fun e => e ▸ c⟩⟩
    have e : (lnK acc).any (fun kv => decide (kv.1 = .inl i)) = true := List.any_eq_true.mpr ⟨(.inl i, .bl true), List.mem_map.mpr ⟨i, c, rfl⟩, decide_eq_true rfl⟩
    unfold putD
    rw [if_pos e]
    unfold lnK
    rw [List.map_map]
    refine List.map_congr_left fun x _ => ?_
    show (if (Sum.inl x : Key) = .inl i then ((Sum.inl x : Key), D.bl true) else (.inl x, .bl true)) = _
    split <;> rfl
  · have hn : DD.getD (lnK acc) (.inl i) = none := by
      unfold DD.getD
      rw [Option.map_eq_none_iff, List.find?_eq_none]
      intro kv hkv e
      obtain ⟨x, hx, rfl⟩ := List.mem_map.mp hkv
      exact c ((Sum.inl.inj (of_decide_eq_true e)) ▸ hx)
    refine ⟨acc ++ [i], by rw [putD_new hn, lnK_app], fun h => ?_, fun x => by simp⟩
    rw [List.nodup_append]
    exact ⟨h, List.nodup_cons.mpr ⟨List.not_mem_nil, List.nodup_nil⟩, fun x hx y hy e => by
      rw [List.mem_singleton] at hy
      exact c (by rw [← hy, ← e]; exact hx)⟩
theorem lnK_merge : ∀ (is acc : List Int), acc.Nodup → ∃ ks : List Int, mergeD (lnK acc) (is.map fun i => ((.inl i : Key), D.bl true)) = lnK ks ∧ ks.Nodup ∧ ∀ x, x ∈ ks ↔ x ∈ acc ∨ x ∈ is
  | [], acc, h => ⟨acc, rfl, h, fun x => by simp⟩
  | i :: is, acc, h => by
    obtain ⟨acc', e1, h1, m1⟩ := lnK_put (acc := acc) i
    obtain ⟨ks, e2, h2, m2⟩ := lnK_merge is acc' (h1 h)
    refine ⟨ks, ?_, h2, fun x => by rw [m2, m1, List.mem_cons, or_assoc]⟩
    show mergeD (putD (lnK acc) (.inl i) (.bl true)) (is.map fun i => ((.inl i : Key), D.bl true)) = _
    rw [e1]; exact e2
/-- a finished row: the lines and where they are laid -/
structure Row (lo hi : Box → Int) (L : List Box) (kvs : List (Key × D)) (ks : List Int) (X : Int → Int) : Prop where
  kv : kvs = ks.map fun k => (.inl k, .int (X k))
  st : Strict X ks
  mem : ∀ x, x ∈ ks ↔ ∃ b ∈ L, lo b = x ∨ hi b = x
  z : ∀ k ∈ ks, (∀ k' ∈ ks, k ≤ k') → X k = 0
  bd : ∀ k ∈ ks, 0 ≤ X k ∧ X k < 2 ^ 19
theorem Row.get {lo hi : Box → Int} {L : List Box} {kvs : List (Key × D)} {ks : List Int} {X : Int → Int} (r : Row lo hi L kvs ks X) {x : Int} (h : x ∈ ks) : DD.getD kvs (.inl x) = some (.int (X x)) := by
  rw [r.kv]
  clear r
  induction ks with
  | nil => cases h
  | cons k ks ih =>
    unfold DD.getD at ih ⊢
    rw [List.map_cons, List.find?_cons]
    by_cases c : k = x
    · subst c; simp
    · have : decide ((Sum.inl k : Key) = Sum.inl x) = false := decide_eq_false fun e => c (Sum.inl.inj e)
      simp only [this]
      exact ih ((List.mem_cons.mp h).resolve_left (Ne.symm c))
/-- what stands while a plan is made -/
structure Pst (a l : Addr) (μ0 : Mu) (pb pn pp : Addr) (L : List Box) (nm : List Str) (rws : List (Addr × List (Key × D))) (μ : Mu) : Prop where
  tl : Tiler μ a l
  kp : Keep [a, l] μ0 μ
  nb : μ0 pb = none ∧ pb ≠ a ∧ pb ≠ l
  nn : μ0 pn = none ∧ pn ≠ a ∧ pn ≠ l
  np : μ0 pp = none ∧ pp ≠ a ∧ pp ≠ l
  d1 : pb ≠ pn
  d2 : pb ≠ pp
  d3 : pn ≠ pp
  eb : μ pb = some (.lst (L.map boxD))
  en : μ pn = some (.lst (nm.map D.str))
  ep : μ pp = some (.lst (rws.map fun r => .obj r.1))
  er : ∀ r ∈ rws, r.1 ≠ a ∧ r.1 ≠ l ∧ μ r.1 = some (.dK r.2)
section
variable {a l pb pn pp p : Addr} {μ0 μ μ' : Mu} {L L' : List Box} {nm nm' : List Str} {rws : List (Addr × List (Key × D))} {m : MO}
theorem Pst.tile (z : Pst a l μ0 pb pn pp L nm rws μ) (tl : Tiler μ' a l) (kp : Keep [a, l] μ μ') : Pst a l μ0 pb pn pp L nm rws μ' :=
  ⟨tl, z.kp.trans kp, z.nb, z.nn, z.np, z.d1, z.d2, z.d3, kp.at z.eb (by simp [z.nb.2]), kp.at z.en (by simp [z.nn.2]), kp.at z.ep (by simp [z.np.2]), fun r hr => ⟨(z.er r hr).1, (z.er r hr).2.1, kp.at (z.er r hr).2.2 (by simp [(z.er r hr).1, (z.er r hr).2.1])⟩⟩
theorem Pst.new (z : Pst a l μ0 pb pn pp L nm rws μ) (h : μ p = none) : Pst a l μ0 pb pn pp L nm rws (put μ p m) :=
  ⟨z.tl.put (z.tl.nea h) (z.tl.nel h), z.kp.put' (fresh_back z.tl z.kp h), z.nb, z.nn, z.np, z.d1, z.d2, z.d3, put_old z.eb h, put_old z.en h, put_old z.ep h, fun r hr => ⟨(z.er r hr).1, (z.er r hr).2.1, put_old (z.er r hr).2.2 h⟩⟩
/-- a change at a place that is none of ours -/
theorem Pst.oth (z : Pst a l μ0 pb pn pp L nm rws μ) (h0 : μ0 p = none) (h1 : p ≠ a) (h2 : p ≠ l) (h3 : pb ≠ p) (h4 : pn ≠ p) (h5 : pp ≠ p) (h6 : ∀ r ∈ rws, r.1 ≠ p) : Pst a l μ0 pb pn pp L nm rws (put μ p m) :=
  ⟨z.tl.put h1 h2, z.kp.put' h0, z.nb, z.nn, z.np, z.d1, z.d2, z.d3, by rw [put_ne h3]; exact z.eb, by rw [put_ne h4]; exact z.en, by rw [put_ne h5]; exact z.ep, fun r hr => ⟨(z.er r hr).1, (z.er r hr).2.1, by rw [put_ne (h6 r hr)]; exact (z.er r hr).2.2⟩⟩
theorem Pst.rne (z : Pst a l μ0 pb pn pp L nm rws μ) {xs : List D} (h : μ p = some (.lst xs)) : ∀ r ∈ rws, r.1 ≠ p := fun r hr e => by
  have := (z.er r hr).2.2
  rw [e, h] at this; cases this
theorem Pst.box (z : Pst a l μ0 pb pn pp L nm rws μ) : Pst a l μ0 pb pn pp L' nm rws (put μ pb (.lst (L'.map boxD))) :=
  ⟨z.tl.put z.nb.2.1 z.nb.2.2, z.kp.put' z.nb.1, z.nb, z.nn, z.np, z.d1, z.d2, z.d3, put_same, by rw [put_ne z.d1.symm]; exact z.en, by rw [put_ne z.d2.symm]; exact z.ep, fun r hr => ⟨(z.er r hr).1, (z.er r hr).2.1, by rw [put_ne (z.rne z.eb r hr)]; exact (z.er r hr).2.2⟩⟩
theorem Pst.name (z : Pst a l μ0 pb pn pp L nm rws μ) : Pst a l μ0 pb pn pp L nm' rws (put μ pn (.lst (nm'.map D.str))) :=
  ⟨z.tl.put z.nn.2.1 z.nn.2.2, z.kp.put' z.nn.1, z.nb, z.nn, z.np, z.d1, z.d2, z.d3, by rw [put_ne z.d1]; exact z.eb, put_same, by rw [put_ne z.d3.symm]; exact z.ep, fun r hr => ⟨(z.er r hr).1, (z.er r hr).2.1, by rw [put_ne (z.rne z.en r hr)]; exact (z.er r hr).2.2⟩⟩
theorem Pst.row {q : Addr} {kvs : List (Key × D)} (z : Pst a l μ0 pb pn pp L nm rws μ) (h1 : q ≠ a) (h2 : q ≠ l) (e : μ q = some (.dK kvs)) : Pst a l μ0 pb pn pp L nm (rws ++ [(q, kvs)]) (put μ pp (.lst ((rws ++ [(q, kvs)]).map fun r => .obj r.1))) :=
  ⟨z.tl.put z.np.2.1 z.np.2.2, z.kp.put' z.np.1, z.nb, z.nn, z.np, z.d1, z.d2, z.d3, by rw [put_ne z.d2]; exact z.eb, by rw [put_ne z.d3]; exact z.en, put_same, fun r hr => by
    rcases List.mem_append.mp hr with hr | hr
    · exact ⟨(z.er r hr).1, (z.er r hr).2.1, by rw [put_ne (z.rne z.ep r hr)]; exact (z.er r hr).2.2⟩
    · rw [List.mem_singleton] at hr
      subst hr
      have : q ≠ pp := fun z' => by rw [z', z.ep] at e; cases e
      exact ⟨h1, h2, by rw [put_ne this]; exact e⟩⟩
end
section
variable {E : DEnds} {a l pb pn pp : Addr} {m g f : Int} {L : List Box} {nm : List Str} {rws : List (Addr × List (Key × D))} {μ0 μ : Mu} {u9 u10 u11 u12 u13 : Option D}
theorem take_lt {x : Int} : ∀ {ns : List Int} {i : Nat}, ns.Pairwise (· < ·) → ns[i]? = some x → ∀ k ∈ ns.take i, k < x
  | [], _, _, h, _, _ => by cases h
  | y :: ns, 0, _, _, k, hk => absurd hk List.not_mem_nil
  | y :: ns, i + 1, hp, h, k, hk => by
    obtain ⟨h1, h2⟩ := List.pairwise_cons.mp hp
    rcases List.mem_cons.mp hk with rfl | hk
    · exact h1 x (List.mem_of_getElem? h)
    · exact take_lt h2 h k hk
theorem kD_l (i : Int) : kD (.inl i) = .int i := rfl
theorem rd_plan3 {z : Int} {lo hi : Box → Int} {q : Addr} (h0 : ∀ b : Box, atI [D.int b.w, .int b.s, .int b.e, .int b.n] z = some (.int (lo b))) (h2 : ∀ b : Box, atI [D.int b.w, .int b.s, .int b.e, .int b.n] (z + 2) = some (.int (hi b)))
    (st : Pst a l μ0 pb pn pp L nm rws μ) (q0 : μ0 q = none ∧ q ≠ a ∧ q ≠ l) (q1 : pb ≠ q ∧ pn ≠ q ∧ pp ≠ q) (q2 : ∀ r ∈ rws, r.1 ≠ q) (eq : μ q = some (.dK [])) (hg : 1 ≤ g ∧ g ≤ 240) (hL : L.length ≤ 40) {lx : List Int} (hlx : lx.length ≤ 41) (hin : ∀ b ∈ L, lo b ∈ lx ∧ hi b ∈ lx) (hrw : rws.length ≤ 2)
    (k : ∀ kvs ks X f w9 w13 μ', Row lo hi L kvs ks X → Pst a l μ0 pb pn pp L nm (rws ++ [(q, kvs)]) μ' → E.nx [some (.obj a), some (.int m), some (.obj pb), some (.obj pn), some (.obj pp), some (.int g), some (.int z), some (.obj q), some (.int f), w9, u10, u11, u12, w13] μ') :
    t__law_plan_3 E [some (.obj a), some (.int m), some (.obj pb), some (.obj pn), some (.obj pp), some (.int g), some (.int z), some (.obj q), some (.int 0), u9, u10, u11, u12, u13] μ := by
  unfold t__law_plan_3
  rw [ev_seq]
  show diSeq _ _ _ _
  rw [ev_diSeq]
  · walk_at "dd"
    rw [ev_lc, ev_diSeq, ev_var]
    show seqI (.obj pb) μ _
    rw [seqI_obj st.eb]
    refine lcB_map L boxD (fun b => .tup [.int (lo b), .bl true]) rfl (fun p acc hp => put_old st.eb hp) (lt_line (by omega)) (fun b hb μ' R h => ?_) (fun p1 hp1 => ?_)
    · unfold boxD
      walk_at "dd"
      rw [h0]
      exact ⟨le_line (by decide), h⟩
    have st1 := st.new (m := .lst (L.map fun b => D.tup [.int (lo b), .bl true])) hp1
    have eq1 := put_old (n := .lst (L.map fun b => D.tup [.int (lo b), .bl true])) eq hp1
    have e1 : put μ p1 (.lst (L.map fun b => D.tup [.int (lo b), .bl true])) p1 = _ := put_same
    generalize put μ p1 (.lst (L.map fun b => D.tup [.int (lo b), .bl true])) = μ1 at st1 eq1 e1
    rw [ev_lc, ev_diSeq, ev_var]
    show seqI (.obj pb) μ1 _
    rw [seqI_obj st1.eb]
    refine lcB_map L boxD (fun b => .tup [.int (hi b), .bl true]) rfl (fun p acc hp => put_old st1.eb hp) (lt_line (by omega)) (fun b hb μ' R h => ?_) (fun p2 hp2 => ?_)
    · unfold boxD
      walk_at "dd"
      rw [h2]
      exact ⟨le_line (by decide), h⟩
    rw [rAdd_ll]
    refine ⟨_, _, put_old e1 hp2, put_same, le_line (by rw [List.length_map, List.length_map]; omega), fun p3 hp3 => ?_⟩
    have st3 := (st1.new (m := .lst (L.map fun b => D.tup [.int (hi b), .bl true])) hp2).new (m := .lst ((L.map fun b => D.tup [.int (lo b), .bl true]) ++ L.map fun b => D.tup [.int (hi b), .bl true])) hp3
    have eq3 := put_old (n := .lst ((L.map fun b => D.tup [.int (lo b), .bl true]) ++ L.map fun b => D.tup [.int (hi b), .bl true])) (put_old (n := .lst (L.map fun b => D.tup [.int (hi b), .bl true])) eq1 hp2) hp3
    have e3 : put (put μ1 p2 (.lst (L.map fun b => D.tup [.int (hi b), .bl true]))) p3 (.lst ((L.map fun b => D.tup [.int (lo b), .bl true]) ++ L.map fun b => D.tup [.int (hi b), .bl true])) p3 = _ := put_same
    generalize put (put μ1 p2 (.lst (L.map fun b => D.tup [.int (hi b), .bl true]))) p3 (.lst ((L.map fun b => D.tup [.int (lo b), .bl true]) ++ L.map fun b => D.tup [.int (hi b), .bl true])) = μ3 at st3 eq3 e3
    obtain ⟨ks, ek, hnd, hmem⟩ := lnK_merge (L.map lo ++ L.map hi) [] List.nodup_nil
    have hkl : ks.length ≤ 41 := Nat.le_trans (nodup_len hnd fun x hx => by
      rcases (hmem x).mp hx with z | z
      · cases z
      · rcases List.mem_append.mp z with z | z
        · obtain ⟨b, hb, rfl⟩ := List.mem_map.mp z; exact (hin b hb).1
        · obtain ⟨b, hb, rfl⟩ := List.mem_map.mp z; exact (hin b hb).2) hlx
    show (∀ es, D.obj p3 ≠ .tup es) ∧ _
    refine ⟨(fun es z => nomatch z), (L.map lo ++ L.map hi).map fun i => ((.inl i : Key), D.bl true), ?_, fun p4 hp4 => ?_⟩
    · rw [seqD_l e3, List.map_map, List.map_append, List.map_map, List.map_map]; rfl
    have ek : mergeD [] ((L.map lo ++ L.map hi).map fun i => ((.inl i : Key), D.bl true)) = lnK ks := ek
    rw [ek]
    have st4 := st3.new (m := .dK (lnK ks)) hp4
    have eq4 := put_old (n := .dK (lnK ks)) eq3 hp4
    have e4 : put μ3 p4 (.dK (lnK ks)) p4 = _ := put_same
    generalize put μ3 p4 (.dK (lnK ks)) = μ4 at st4 eq4 e4
    show (∀ es, D.obj p4 ≠ .tup es) ∧ _
    refine ⟨(fun es z => nomatch z), .inr (.inr ⟨p4, lnK ks, ks, rfl, e4, by unfold lnK; rw [List.map_map]; rfl, by omega, fun ns p5 hpm hso hp5 => ?_⟩)⟩
    have st5 := st4.new (m := .lst (ns.map D.int)) hp5
    have eq5 := put_old (n := .lst (ns.map D.int)) eq4 hp5
    have e5 : put μ4 p5 (.lst (ns.map D.int)) p5 = _ := put_same
    have n1 := st4.tl.nea hp5
    have n2 := st4.tl.nel hp5
    generalize put μ4 p5 (.lst (ns.map D.int)) = μ5 at st5 eq5 e5
    have n3 : p5 ≠ q := fun z => by rw [z, eq5] at e5; cases e5
    have hnd2 : ns.Nodup := hpm.nodup_iff.mpr hnd
    have hmem2 : ∀ x, x ∈ ns ↔ ∃ b ∈ L, lo b = x ∨ hi b = x := fun x => by
      rw [hpm.mem_iff, hmem]
      simp only [List.not_mem_nil, false_or, List.mem_append, List.mem_map]
      exact ⟨fun z => z.elim (fun ⟨b, h1, h2⟩ => ⟨b, h1, .inl h2⟩) fun ⟨b, h1, h2⟩ => ⟨b, h1, .inr h2⟩, fun ⟨b, h1, h2⟩ => h2.elim (fun h2 => .inl ⟨b, h1, h2⟩) fun h2 => .inr ⟨b, h1, h2⟩⟩
    have hnl : ns.length ≤ 41 := by rw [hpm.length_eq]; exact hkl
    have hlt : ns.Pairwise (· < ·) := by
      have := List.pairwise_and_iff.mpr ⟨hso, hnd2⟩
      exact this.imp fun h => by have := h.1; have := h.2; omega
    show seqI (.obj p5) μ5 _
    rw [seqI_obj e5]
    refine ⟨fun i s μ' => ∃ X f w9, s = [some (.obj a), some (.int m), some (.obj pb), some (.obj pn), some (.obj pp), some (.int g), some (.int z), some (.obj q), some (.int f), w9, u10, u11, u12, u13] ∧ Pst a l μ0 pb pn pp L nm rws μ' ∧ μ' p5 = some (.lst (ns.map D.int)) ∧
      μ' q = some (.dK ((ns.take i).map fun k => (.inl k, .int (X k)))) ∧ Strict X (ns.take i) ∧ (∀ k ∈ ns.take i, (∀ k' ∈ ns, k ≤ k') → X k = 0) ∧ (∀ k ∈ ns.take i, 0 ≤ X k ∧ X k < f) ∧ f ≤ 241 * i ∧ 0 ≤ f ∧ (i = 0 → f = 0), ⟨fun _ => 0, 0, u9, rfl, st5, e5, eq5, (fun a ha => absurd ha List.not_mem_nil), (fun k hk => absurd hk List.not_mem_nil), (fun k hk => absurd hk List.not_mem_nil), by decide, by decide, fun _ => rfl⟩,
      fun i s μ' ⟨_, _, _, _, _, h, _⟩ => h, fun i d s μ' hd ⟨X, f, w9, es, sp, ep5, eqi, hX, hz, hb, hf, hf0, hi0⟩ => ?_, fun s μ' ⟨X, f, w9, es, sp, ep5, eqi, hX, hz, hb, hf, hf0, hi0⟩ => ?_⟩
    · subst es
      rw [List.getElem?_map] at hd
      obtain ⟨x, hx, rfl⟩ := Option.map_eq_some_iff.mp hd
      have hil : i < ns.length := (List.getElem?_eq_some_iff.mp hx).1
      have htk : ns.take (i + 1) = ns.take i ++ [x] := by rw [List.take_add_one, hx]; rfl
      walk_at "dd"
      rw [rPut_di eqi]
      have hlo := take_lt hlt hx
      have hxn : DD.getD ((ns.take i).map fun k => ((.inl k : Key), D.int (X k))) (.inl x) = none := by
        unfold DD.getD
        rw [Option.map_eq_none_iff, List.find?_eq_none]
        intro kv hkv e
        obtain ⟨y, hy, rfl⟩ := List.mem_map.mp hkv
        have e2 : y = x := Sum.inl.inj (of_decide_eq_true e)
        have := hlo y hy
        omega
      rw [putD_new hxn]
      refine ⟨lt_line (by rw [List.length_map, List.length_take]; omega), ?_⟩
      have sp1 := sp.oth (m := .dK ((ns.take i).map (fun k => ((.inl k : Key), D.int (X k))) ++ [(.inl x, .int f)])) q0.1 q0.2.1 q0.2.2 q1.1 q1.2.1 q1.2.2 q2
      have e51 : put μ' q (.dK ((ns.take i).map (fun k => ((.inl k : Key), D.int (X k))) ++ [(.inl x, .int f)])) p5 = some (.lst (ns.map D.int)) := by rw [put_ne n3]; exact ep5
      have eq1 : put μ' q (.dK ((ns.take i).map (fun k => ((.inl k : Key), D.int (X k))) ++ [(.inl x, .int f)])) q = _ := put_same
      generalize put μ' q (.dK ((ns.take i).map (fun k => ((.inl k : Key), D.int (X k))) ++ [(.inl x, .int f)])) = μ6 at sp1 e51 eq1
      unfold t__law_plan_1
      walk_at "dd"
      refine ⟨a, l, g, rfl, sp1.tl, by omega, fun v μ7 tl7 kp7 v0 v1 => ?_⟩
      have sp7 := sp1.tile tl7 kp7
      walk_at "dd"
      refine ⟨fun y => if y = x then f else X y, _, _, rfl, sp7, kp7.at e51 (by simp [n1, n2]), ?_, ?_, ?_, ?_, ?_, ?_, ?_⟩
      · rw [kp7.at eq1 (by simp [q0.2]), htk, List.map_append]
        congr 3
        · refine List.map_congr_left fun y hy => ?_
          have := hlo y hy
          dsimp only
          rw [if_neg (by omega)]
        · show [((Sum.inl x : Key), D.int f)] = [(.inl x, .int (if x = x then f else X x))]
          rw [if_pos rfl]
      · rw [htk]
        intro y hy w hw hyw
        rcases List.mem_append.mp hy with hy | hy <;> rcases List.mem_append.mp hw with hw | hw
        · have h1 := hlo y hy
          have h2 := hlo w hw
          show (if y = x then f else X y) < (if w = x then f else X w)
          rw [if_neg (by omega), if_neg (by omega)]
          exact hX y hy w hw hyw
        · have h1 := hlo y hy
          rw [List.mem_singleton] at hw
          show (if y = x then f else X y) < (if w = x then f else X w)
          rw [if_neg (by omega), if_pos hw]
          exact (hb y hy).2
        · have h1 := hlo w hw
          rw [List.mem_singleton] at hy
          omega
        · rw [List.mem_singleton] at hy hw
          omega
      · rw [htk]
        intro y hy hmin
        show (if y = x then f else X y) = 0
        rcases List.mem_append.mp hy with hy | hy
        · have h1 := hlo y hy
          rw [if_neg (by omega)]
          exact hz y hy hmin
        · rw [List.mem_singleton] at hy
          rw [if_pos hy]
          apply hi0
          cases i with
          | zero => rfl
          | succ j =>
            have hj : ns[0]? = some (ns[0]'(by omega)) := List.getElem?_eq_getElem (by omega)
            have hmem0 : ns[0]'(by omega) ∈ ns.take (j + 1) := by
              rw [List.mem_take_iff_getElem]
              exact ⟨0, by omega, rfl⟩
            have h1 := hlo _ hmem0
            have h2 := hmin _ (List.getElem_mem (by omega : 0 < ns.length))
            omega
      · rw [htk]
        intro y hy
        show 0 ≤ (if y = x then f else X y) ∧ (if y = x then f else X y) < _
        rcases List.mem_append.mp hy with hy | hy
        · have h1 := hlo y hy
          have h2 := hb y hy
          rw [if_neg (by omega)]
          omega
        · rw [List.mem_singleton] at hy
          rw [if_pos hy]
          omega
      · have : v < 240 := by omega
        omega
      · omega
      · intro z; omega
    · subst es
      rw [List.length_map] at eqi hX hz hb hf
      rw [List.take_length] at eqi hX hz hb
      unfold t__law_plan_2
      walk_at "dd"
      rw [recv_l sp.ep]
      refine ⟨rfl, ?_⟩
      rw [rApp_l sp.ep]
      refine ⟨lt_line (by rw [List.length_map]; omega), ?_⟩
      have e : (rws.map fun r => D.obj r.1) ++ [.obj q] = (rws ++ [(q, ns.map fun k => ((.inl k : Key), D.int (X k)))]).map fun r => D.obj r.1 := by rw [List.map_append]; rfl
      rw [e]
      refine k (ns.map fun k => ((.inl k : Key), D.int (X k))) ns X f w9 u13 _ ⟨rfl, hX, hmem2, hz, fun x hx => ⟨(hb x hx).1, ?_⟩⟩ (sp.row q0.2.1 q0.2.2 eqi)
      have := (hb x hx).2
      omega
end
end K53
end
section
open PySem PySem.Spec PyProof.Rows L2
set_option Elab.async false
set_option linter.all false
set_option maxRecDepth 100000
namespace K53
open DD
local macro_rules | `(tactic| walk_at "dd") => `(tactic| simp only [ev_seq, ev_next, ev_drop, ev_ret, ev_if, ev_asg, ev_bnm, ev_btp, ev_sac, ev_san, ev_par, ev_par3, ev_put, ev_yes, ev_rev, ev_newD, ev_var, ev_C, ev_op, ev_test, ev_chain, ev_andT, ev_orT, ev_notT, ev_and, ev_or, ev_not, ev_ifE, ev_nil, ev_cons, ev_tup, ev_lst, ev_un, ev_cb, ev_bm0, ev_bm, ev_sl, ev_noP, ev_part, ev_fgt, asB_bl, asI_int, asT_tup, as1_one, as2_two, rInt_ii, rInt0_ii, rAdd_ii, rAdd_tt, rEq_ii, rEq_ss, rNe_ii, rNeg_i, rIx_t, rLen_t, rAbs_i, rToInt_i, rToInt_b, rMax_ii, rMin_ii, rToTup_t, at0, at1, at2, at3, dwipe, List.getElem?_cons_zero, List.getElem?_cons_succ, Option.getD_some, List.set_cons_zero, List.set_cons_succ, List.length_cons, List.length_nil, decide_eq_true_eq, if_true, if_false, ite_true, ite_false, Bool.false_eq_true, reduceIte, Bool.not_true, Bool.not_false, and_true, true_and])
theorem app_len (a b : Str) : (a ++ b).length = a.length + b.length := by
  show (a.cps ++ b.cps).size = _
  exact Array.size_append
theorem ixS {μ : Mu} {Q : DK} {v : Int} (h0 : 0 ≤ v) (h : v < 8) (q : ∀ c, dig ⟨#[c]⟩ = [] → Q (.str ⟨#[c]⟩) μ) : rIxD (.str letD) (.int v) μ Q := by
  obtain ⟨c, h1, h2⟩ := let_at v.toNat (by omega)
  have h3 : atI letD.cps.toList v = some c := by
    have := atI_nat (xs := letD.cps.toList) (j := v.toNat) (v := c) h1
    rw [← this]
    congr 1
    omega
  rw [rIx_s, h3]
  exact ⟨le_line (by rw [let_len.1]; decide), q c h2⟩
theorem ixM {μ : Mu} {Q : DK} {v : Int} (h0 : 0 ≤ v) (h : v < 3) (q : ∀ z ∈ mids, Q (.str z) μ) : rIxD (.tup [.str "", .str "stair", .str "j"]) (.int v) μ Q := by
  have : v = 0 ∨ v = 1 ∨ v = 2 := by omega
  rw [rIx_t]
  rcases this with rfl | rfl | rfl
  · rw [at0]; exact q _ (by unfold mids; simp)
  · rw [at1]; exact q _ (by unfold mids; simp)
  · rw [at2]; exact q _ (by unfold mids; simp)
theorem ixG {μ : Mu} {Q : DK} {v : Int} (h0 : 0 ≤ v) (h : v < 4) (q : ∀ g, 1 ≤ g ∧ g ≤ 240 → Q (.int g) μ) : rIxD (.tup [.int 1, .int 3, .int 60, .int 240]) (.int v) μ Q := by
  have : v = 0 ∨ v = 1 ∨ v = 2 ∨ v = 3 := by omega
  rw [rIx_t]
  rcases this with rfl | rfl | rfl | rfl
  · rw [at0]; exact q _ (by decide)
  · rw [at1]; exact q _ (by decide)
  · rw [at2]; exact q _ (by decide)
  · rw [at3]; exact q _ (by decide)
def mxV (d : D) (μ1 : Mu) (Q : DK) : Prop := match d with
  | .obj a => (match μ1 a with
    | some (.dK kvs) => ∃ zs : List Int, kvs.map (·.2) = zs.map D.int ∧ zs ≠ [] ∧ ∀ m, m ∈ zs → (∀ j ∈ zs, j ≤ m) → Q (.int m) μ1
    | _ => False)
  | _ => False
theorem ev_mxV (te : DE) (s : DSt) (μ : Mu) (Q : DK) : dMaxVals te s μ Q = te s μ fun d μ1 => mxV d μ1 Q := (rfl)
theorem mxV_row {lo hi : Box → Int} {L : List Box} {kvs : List (Key × D)} {ks : List Int} {X : Int → Int} {f : Int} {q : Addr} {μ : Mu} {Q : DK} (r : Row lo hi L kvs ks X) (e : μ q = some (.dK kvs)) (hf : f ∈ ks ∧ ∀ x ∈ ks, X x ≤ X f) (h : Q (.int (X f)) μ) : mxV (.obj q) μ Q := by
  unfold mxV
  simp only [e]
  refine ⟨ks.map X, by rw [r.kv, List.map_map, List.map_map]; rfl, fun z => ?_, fun m hm hmx => ?_⟩
  · rw [List.map_eq_nil_iff] at z
    rw [z] at hf; exact absurd hf.1 List.not_mem_nil
  · obtain ⟨x, hx, rfl⟩ := List.mem_map.mp hm
    have h1 := hmx (X f) (List.mem_map.mpr ⟨f, hf.1, rfl⟩)
    have h2 := hf.2 x hx
    have e : X x = X f := by omega
    rw [e]; exact h
section
variable {E : DEnds} {a l pb pn pp qx qy : Addr} {m g : Int} {L : List Box} {nm : List Str} {kx ky : List (Key × D)} {ksx ksy : List Int} {X Y : Int → Int} {μ0 μ : Mu} {u6 u7 u8 u9 u10 u11 u12 u13 : Option D}
theorem rd_plan5' {pt : Addr} {T R : List Box} (st : Pst a l μ0 pb pn pp R nm [(qx, kx), (qy, ky)] μ) (rx : Row Box.w Box.e L kx ksx X) (ry : Row Box.s Box.n L ky ksy Y) (et : μ pt = some (.lst (T.map boxD)))
    (hn : nm.length ≤ 40) {fx fy : Int} (mx : fx ∈ ksx ∧ ∀ x ∈ ksx, X x ≤ X fx) (my : fy ∈ ksy ∧ ∀ x ∈ ksy, Y x ≤ Y fy)
    (k : ∀ ys μ', ys.Perm nm → Pst a l μ0 pb pn pp R nm [(qx, kx), (qy, ky)] μ' → E.rt (planD ⟨ys, X fx, Y fy, T⟩) μ') :
    t__law_plan_5 E [some (.obj a), some (.int m), some (.obj pb), some (.obj pn), some (.obj pp), some (.int g), u6, u7, u8, u9, u10, some (.obj pt), u12, u13] μ := by
  unfold t__law_plan_5
  walk_at "dd"
  show (∀ es, D.obj pn ≠ .tup es) ∧ _
  refine ⟨(fun es z => nomatch z), .inr (.inl ⟨nm, by rw [seqD_l st.en], by omega, fun ys p hpm hso hp => ?_⟩)⟩
  show rToTupD [.obj p] (put μ p (.lst (ys.map D.str))) _
  rw [rToTup_l put_same]
  refine fgt_self ?_
  have st1 := st.new (m := .lst (ys.map D.str)) hp
  have et1 := put_old (n := .lst (ys.map D.str)) et hp
  generalize put μ p (.lst (ys.map D.str)) = μ1 at st1 et1
  rw [ev_mxV]
  walk_at "dd"
  rw [rIx_l st1.ep]
  simp only [List.map_cons, List.map_nil, at0]
  refine mxV_row rx (st1.er (qx, kx) (by simp)).2.2 mx ?_
  rw [ev_mxV]
  walk_at "dd"
  rw [rIx_l st1.ep]
  simp only [List.map_cons, List.map_nil, at1]
  refine mxV_row ry (st1.er (qy, ky) (by simp)).2.2 my ?_
  rw [rToTup_l et1]
  exact ⟨le_line (by decide), k ys μ1 hpm st1⟩
theorem rd_plan6 (st : Pst a l μ0 pb pn pp L nm [(qx, kx), (qy, ky)] μ) (rx : Row Box.w Box.e L kx ksx X) (ry : Row Box.s Box.n L ky ksy Y) 
    (hn : nm.length ≤ 40) (hl : nm.length = L.length) {fx fy : Int} (mx : fx ∈ ksx ∧ ∀ x ∈ ksx, X x ≤ X fx) (my : fy ∈ ksy ∧ ∀ x ∈ ksy, Y x ≤ Y fy)
    (k : ∀ ys T μ', ys.Perm nm → L.Perm T → Tiler μ' a l → Keep [a, l] μ0 μ' → E.rt (planD ⟨ys, X fx, Y fy, T.map (mp X Y)⟩) μ') :
    t__law_plan_7 E [some (.obj a), some (.int m), some (.obj pb), some (.obj pn), some (.obj pp), some (.int g), u6, u7, u8, u9, u10, u11, u12, u13] μ := by
  unfold t__law_plan_7
  walk_at "dd"
  refine ⟨le_line (by decide), fun pt hpt => ?_⟩
  have st1 := st.new (m := .lst []) hpt
  have et1 : put μ pt (.lst []) pt = _ := put_same
  have n1 := st.tl.nea hpt
  have n2 := st.tl.nel hpt
  have n3 : pb ≠ pt := ne_new st.eb hpt
  have n4 : pn ≠ pt := ne_new st.en hpt
  have n5 : pp ≠ pt := ne_new st.ep hpt
  have n0 := fresh_back st.tl st.kp hpt
  generalize put μ pt (.lst []) = μ1 at st1 et1
  unfold t__law_plan_6
  rw [ev_seq]
  show diSeq _ _ _ _
  rw [ev_diSeq, ev_var]
  show seqI (.obj pn) μ1 _
  rw [seqI_obj st1.en]
  refine ⟨fun i s μ' => ∃ T R w12 w13, s = [some (.obj a), some (.int m), some (.obj pb), some (.obj pn), some (.obj pp), some (.int g), u6, u7, u8, u9, u10, some (.obj pt), w12, w13] ∧ Pst a l μ0 pb pn pp R nm [(qx, kx), (qy, ky)] μ' ∧ μ' pt = some (.lst ((T.map (mp X Y)).map boxD)) ∧ L.Perm (T ++ R) ∧ T.length = i,
    ⟨[], L, u12, u13, rfl, st1, et1, List.Perm.refl _, rfl⟩, fun i s μ' ⟨_, _, _, _, _, sp, _⟩ => sp.en, fun i d s μ' hd ⟨T, R, w12, w13, es, sp, ep, pm, hT⟩ => ?_, fun s μ' ⟨T, R, w12, w13, es, sp, ep, pm, hT⟩ => ?_⟩
  · subst es
    have hil : i < nm.length := by
      have := (List.getElem?_eq_some_iff.mp hd).1
      rw [List.length_map] at this; exact this
    have hlen := pm.length_eq
    rw [List.length_append] at hlen
    walk_at "dd"
    rw [recv_l sp.eb]
    refine ⟨rfl, ?_⟩
    rw [rLen_l sp.eb, List.length_map]
    refine ⟨a, l, _, rfl, sp.tl, by omega, fun v μ2 tl2 kp2 v0 v1 => ?_⟩
    have sp2 := sp.tile tl2 kp2
    have ep2 := kp2.at ep (by simp [n1, n2])
    have hv : v < R.length := by omega
    dsimp only
    rw [rPopI_l sp2.eb]
    refine ⟨by omega, by omega, ?_⟩
    rw [List.length_map, ixN_lt v0 hv]
    dsimp only
    rw [List.getElem?_map]
    have hvl : v.toNat < R.length := by omega
    have hR : R[v.toNat]? = some R[v.toNat] := List.getElem?_eq_getElem hvl
    have hpm := pull hR
    rw [hR, erase_map]
    dsimp only [Option.map_some]
    generalize R[v.toNat] = b at hpm
    generalize R.eraseIdx v.toNat = R' at hpm
    have sp3 := sp2.box (L' := R')
    have ep3 : put μ2 pb (.lst (R'.map boxD)) pt = some (.lst ((T.map (mp X Y)).map boxD)) := by rw [put_ne (Ne.symm n3)]; exact ep2
    generalize put μ2 pb (.lst (R'.map boxD)) = μ3 at sp3 ep3
    show t__law_plan_4 _ [some (.obj a), some (.int m), some (.obj pb), some (.obj pn), some (.obj pp), some (.int g), u6, u7, u8, u9, u10, some (.obj pt), some d, some (.tup [.int b.w, .int b.s, .int b.e, .int b.n])] μ3
    have hbL : b ∈ L := pm.mem_iff.mpr (List.mem_append_right _ (hpm.mem_iff.mpr List.mem_cons_self))
    unfold t__law_plan_4
    walk_at "dd"
    rw [recv_l ep3]
    refine ⟨rfl, ?_⟩
    have erx := (sp3.er (qx, kx) (by simp)).2.2
    have ery := (sp3.er (qy, ky) (by simp)).2.2
    simp only [rIx_l sp3.ep, List.map_cons, List.map_nil, at0, at1, rIx_di erx, rIx_di ery, rx.get ((rx.mem _).mpr ⟨b, hbL, .inl rfl⟩), rx.get ((rx.mem _).mpr ⟨b, hbL, .inr rfl⟩), ry.get ((ry.mem _).mpr ⟨b, hbL, .inl rfl⟩), ry.get ((ry.mem _).mpr ⟨b, hbL, .inr rfl⟩)]
    refine ⟨le_line (by decide), ?_⟩
    rw [rApp_l ep3]
    refine ⟨lt_line (by rw [List.length_map, List.length_map]; omega), T ++ [b], R', _, _, rfl, sp3.oth n0 n1 n2 n3 n4 n5 (sp3.rne ep3), ?_, ?_, by rw [List.length_append, hT]; rfl⟩
    · rw [put_same, List.map_append, List.map_append]; rfl
    · rw [List.append_assoc]
      exact pm.trans (List.Perm.append_left T hpm)
  · subst es
    rw [List.length_map] at hT
    have hlen := pm.length_eq
    rw [List.length_append] at hlen
    have hR : R = [] := List.eq_nil_of_length_eq_zero (by omega)
    subst hR
    rw [List.append_nil] at pm
    refine rd_plan5' sp rx ry ep hn mx my (fun ys μ' hp hs => k ys T μ' hp pm hs.tl hs.kp)
theorem rd_plan8 (st : Pst a l μ0 pb pn pp L [] [(qx, kx), (qy, ky)] μ) (hm : 0 ≤ m ∧ m ≤ 40)
    (k : ∀ nm w10 μ', (nm.map dig) = digN.take m.toNat → Pst a l μ0 pb pn pp L nm [(qx, kx), (qy, ky)] μ' → t__law_plan_7 E [some (.obj a), some (.int m), some (.obj pb), some (.obj pn), some (.obj pp), some (.int g), u6, u7, u8, u9, w10, u11, u12, u13] μ') :
    t__law_plan_8 E [some (.obj a), some (.int m), some (.obj pb), some (.obj pn), some (.obj pp), some (.int g), u6, u7, u8, u9, u10, u11, u12, u13] μ := by
  unfold t__law_plan_8
  rw [ev_seq]
  refine for_r1 m (fun R h => ?_) ⟨by omega, by omega⟩ (fun i s μ' => ∃ nm w10, s = [some (.obj a), some (.int m), some (.obj pb), some (.obj pn), some (.obj pp), some (.int g), u6, u7, u8, u9, w10, u11, u12, u13] ∧ nm.map dig = digN.take i ∧ Pst a l μ0 pb pn pp L nm [(qx, kx), (qy, ky)] μ') ⟨[], u10, rfl, rfl, st⟩ (fun i s μ' hi ⟨nm, w10, es, en, sp⟩ => ?_) (fun s μ' ⟨nm, w10, es, en, sp⟩ => ?_)
  · walk_at "dd"; exact h
  · subst es
    have hi40 : i < 40 := by omega
    have hdl : digN.length = 40 := by unfold digN; rw [List.length_map, List.length_range]
    have hnl : nm.length = i := by
      have := congrArg List.length en
      rw [List.length_map, List.length_take, hdl] at this
      omega
    walk_at "dd"
    rw [recv_l sp.en]
    refine ⟨rfl, a, l, 8, rfl, sp.tl, by decide, fun v μ2 tl2 kp2 v0 v1 => ?_⟩
    refine ixS v0 (by omega) (fun c hc => ?_)
    refine ⟨le_line (by decide), a, l, 3, rfl, tl2, by decide, fun w μ3 tl3 kp3 w0 w1 => ?_⟩
    dsimp only
    refine ixM w0 (by omega) (fun z hz => ?_)
    obtain ⟨hz1, hz2⟩ := mid_ok z hz
    rw [rAdd_ss]
    have hc1 : (⟨#[c]⟩ : Str).length = 1 := rfl
    refine ⟨le_line (by rw [hc1]; omega), ?_⟩
    rw [rToStr_i]
    refine ⟨num_log i hi40, ?_⟩
    rw [rAdd_ss]
    have hns := numS_len i hi40
    refine ⟨le_line (by rw [app_len, hc1]; show 1 + z.length + (numS i).length ≤ 1000; omega), ?_⟩
    have sp3 := (sp.tile tl2 kp2).tile tl3 kp3
    rw [rApp_l sp3.en]
    refine ⟨lt_line (by rw [List.length_map]; omega), ?_⟩
    have e : nm.map D.str ++ [.str (⟨#[c]⟩ ++ z ++ Str.ofString (toString (i : Int)))] = (nm ++ [⟨#[c]⟩ ++ z ++ numS i]).map D.str := by rw [List.map_append]; rfl
    rw [e]
    refine ⟨nm ++ [⟨#[c]⟩ ++ z ++ numS i], _, rfl, ?_, sp3.name⟩
    have hdi : digN[i]? = some (dig (numS i)) := by
      unfold digN
      rw [List.getElem?_map, List.getElem?_range hi40]; rfl
    rw [List.map_append, en, List.take_add_one, hdi]
    show _ ++ [dig _] = _
    rw [dig_app, dig_app, hc, hz1]
    rfl
  · subst es
    exact k nm w10 μ' en sp
theorem fin_row {lo hi : Box → Int} {kvs : List (Key × D)} {ks lx : List Int} {X : Int → Int} (r : Row lo hi L kvs ks X) (hin : ∀ b ∈ L, lo b ∈ lx ∧ hi b ∈ lx) (cov : ∀ x ∈ lx, ∃ b ∈ L, lo b = x ∨ hi b = x) (z : 0 ∈ lx ∧ far0 ∈ lx) (bd : ∀ b ∈ L, 0 ≤ lo b ∧ lo b ≤ hi b ∧ hi b ≤ far0) :
    X 0 = 0 ∧ Strict X lx ∧ (far0 ∈ ks ∧ ∀ x ∈ ks, X x ≤ X far0) ∧ 0 < X far0 ∧ X far0 < 2 ^ 19 := by
  have h1 : ∀ x, x ∈ lx → x ∈ ks := fun x hx => (r.mem x).mpr (cov x hx)
  have h2 : ∀ x, x ∈ ks → 0 ≤ x ∧ x ≤ far0 := fun x hx => by
    obtain ⟨b, hb, e⟩ := (r.mem x).mp hx
    have := bd b hb
    rcases e with e | e <;> omega
  have hf := h1 _ z.2
  have h0 := h1 _ z.1
  have z0 : X 0 = 0 := r.z 0 h0 fun k hk => (h2 k hk).1
  have hp : (0 : Int) < far0 := by decide
  refine ⟨z0, fun a ha b hb => r.st a (h1 a ha) b (h1 b hb), ⟨hf, fun x hx => ?_⟩, ?_, (r.bd _ hf).2⟩
  · have := (h2 x hx).2
    by_cases c : x = far0
    · rw [c]; exact Int.le_refl _
    · exact Int.le_of_lt (r.st x hx far0 hf (by omega))
  · rw [← z0]; exact r.st 0 h0 far0 hf hp
end
theorem rd__law_plan (ds : List D) (μ : Mu) (Q : DK) (h : S__law_plan ds μ Q) : t__law_plan (En Q) (dstart N__law_plan ds) μ := by
  obtain ⟨a, l, m, rfl, tl, hm1, hm40, q⟩ := h
  show t__law_plan _ [some (.obj a), some (.int m), none, none, none, none, none, none, none, none, none, none, none, none] μ
  unfold t__law_plan
  walk_at "dd"
  refine ⟨a, l, m, rfl, tl, hm1, hm40, fun pb L μ1 hpb tl1 kp1 eb1 bok => ?_⟩
  obtain ⟨hL, lx, ly, hx, hy, fl⟩ := bok
  refine ⟨le_line (by decide), fun pn hpn => ⟨le_line (by decide), fun pp hpp => ?_⟩⟩
  have st : Pst a l μ pb pn pp L [] [] (put (put μ1 pn (.lst [])) pp (.lst [])) := by
    have t1 := tl1.put (m := .lst []) (tl1.nea hpn) (tl1.nel hpn)
    have k1 := kp1.put' (m := .lst []) (fresh_back tl1 kp1 hpn)
    have n1 : pb ≠ a := tl.nea hpb
    have n2 : pb ≠ l := tl.nel hpb
    have n3 : pb ≠ pn := ne_new eb1 hpn
    have n4 : pn ≠ pp := ne_new put_same hpp
    have n5 : pb ≠ pp := ne_new (put_old eb1 hpn) hpp
    exact ⟨t1.put (t1.nea hpp) (t1.nel hpp), k1.put' (fresh_back t1 k1 hpp), ⟨hpb, n1, n2⟩, ⟨fresh_back tl1 kp1 hpn, tl1.nea hpn, tl1.nel hpn⟩, ⟨fresh_back t1 k1 hpp, t1.nea hpp, t1.nel hpp⟩, n3, n5, n4, by rw [put_ne n5, put_ne n3]; exact eb1, by rw [put_ne n4]; exact put_same, put_same, fun r hr => absurd hr List.not_mem_nil⟩
  generalize put (put μ1 pn (.lst [])) pp (.lst []) = μ2 at st
  have hL40 : L.length ≤ 40 := by omega
  unfold t__law_plan_10
  walk_at "dd"
  refine ⟨le_line (by decide), a, l, 4, rfl, st.tl, by decide, fun v μ3 tl3 kp3 v0 v1 => ?_⟩
  dsimp only
  refine ixG v0 (by omega) (fun g hg => ?_)
  have st3 := st.tile tl3 kp3
  unfold t__law_plan_9
  rw [ev_seq]
  refine for_r1 2 (fun R h => ?_) ⟨by decide, by decide⟩ (fun i s μ' => ∃ rws w6 w7 w8 w9 w13, s = [some (.obj a), some (.int m), some (.obj pb), some (.obj pn), some (.obj pp), some (.int g), w6, w7, w8, w9, none, none, none, w13] ∧ Pst a l μ pb pn pp L [] rws μ' ∧
    (i = 0 ∧ rws = [] ∨ i = 1 ∧ (∃ qx kx ksx X, rws = [(qx, kx)] ∧ Row Box.w Box.e L kx ksx X) ∨ i = 2 ∧ ∃ qx kx ksx X qy ky ksy Y, rws = [(qx, kx), (qy, ky)] ∧ Row Box.w Box.e L kx ksx X ∧ Row Box.s Box.n L ky ksy Y)) ⟨[], none, none, none, none, none, rfl, st3, .inl ⟨rfl, rfl⟩⟩ (fun i s μ' hi ⟨rws, w6, w7, w8, w9, w13, es, sp, hi2⟩ => ?_) (fun s μ' ⟨rws, w6, w7, w8, w9, w13, es, sp, hi2⟩ => ?_)
  · walk_at "dd"; exact h
  · subst es
    walk_at "dd"
    intro q hq
    have sp1 := sp.new (m := .dK []) hq
    have q0 := fresh_back sp.tl sp.kp hq
    have q1 := sp.tl.nea hq
    have q2 := sp.tl.nel hq
    have q3 : pb ≠ q ∧ pn ≠ q ∧ pp ≠ q := ⟨ne_new sp.eb hq, ne_new sp.en hq, ne_new sp.ep hq⟩
    have q4 : ∀ r ∈ rws, r.1 ≠ q := fun r hr => ne_new (sp.er r hr).2.2 hq
    rcases hi2 with ⟨rfl, rfl⟩ | ⟨rfl, qx, kx, ksx, X, rfl, rx⟩ | ⟨rfl, _⟩
    · refine rd_plan3 (z := 0) (lo := Box.w) (hi := Box.e) (fun b => at0 _ _) (fun b => at2 _ _ _ _) sp1 ⟨q0, q1, q2⟩ q3 q4 put_same hg hL40 (lx := lx) (by omega) fl.inx (by decide) (fun kvs ks X f w9' w13' μ4 r sp4 => ?_)
      exact ⟨_, _, _, _, _, _, rfl, sp4, .inr (.inl ⟨rfl, _, _, _, _, rfl, r⟩)⟩
    · refine rd_plan3 (z := 1) (lo := Box.s) (hi := Box.n) (fun b => at1 _ _ _) (fun b => at3 _ _ _ _ _) sp1 ⟨q0, q1, q2⟩ q3 q4 put_same hg hL40 (lx := ly) (by omega) fl.iny (by simp) (fun kvs ks Y f w9' w13' μ4 r sp4 => ?_)
      exact ⟨_, _, _, _, _, _, rfl, sp4, .inr (.inr ⟨rfl, _, _, _, _, _, _, _, _, rfl, rx, r⟩)⟩
    · exact absurd hi (by decide)
  · subst es
    rcases hi2 with ⟨z, _⟩ | ⟨z, _⟩ | ⟨_, qx, kx, ksx, X, qy, ky, ksy, Y, rfl, rx, ry⟩
    · exact absurd z (by decide)
    · exact absurd z (by decide)
    · have inn := fl.own.inn
      have prr := fl.own.pr
      obtain ⟨zx, sx, mx, px, bx⟩ := fin_row rx fl.inx fl.covx fl.zx fun b hb => ⟨(inn b hb).1, Int.le_of_lt (prr b hb).1, (inn b hb).2.2.1⟩
      obtain ⟨zy, sy, my, py, byy⟩ := fin_row ry fl.iny fl.covy fl.zy fun b hb => ⟨(inn b hb).2.1, Int.le_of_lt (prr b hb).2, (inn b hb).2.2.2⟩
      refine rd_plan8 sp ⟨by omega, hm40⟩ (fun nm w10 μ5 en sp5 => ?_)
      have hdl : digN.length = 40 := by unfold digN; rw [List.length_map, List.length_range]
      have hnl : nm.length = L.length := by
        have := congrArg List.length en
        rw [List.length_map, List.length_take, hdl] at this
        omega
      refine rd_plan6 sp5 rx ry (by omega) hnl mx my (fun ys T μ6 hys hT tl6 kp6 => ?_)
      have hy1 := hys.length_eq
      have hT1 := hT.length_eq
      refine fgt_self (q _ μ6 tl6 kp6 ⟨⟨?_, ?_, ?_⟩, ?_, ⟨px, py⟩, ⟨?_, ?_⟩⟩ ?_ ?_)
      · show ys.length = (T.map (mp X Y)).length
        rw [List.length_map]; omega
      · refine hys.nodup_iff.mpr (nodup_of_map dig ?_)
        rw [en]
        exact digN_nd.sublist (List.take_sublist _ _)
      · show ys.length ≤ 40
        omega
      · exact (fl.good X Y zx zy sx sy).perm (hT.map _)
      · show X far0 < 2 ^ 40
        omega
      · show Y far0 < 2 ^ 40
        omega
      · show X far0 < 2 ^ 20
        omega
      · show Y far0 < 2 ^ 20
        omega
end K53
end
section
open PySem PySem.Spec PyProof.Rows L2
set_option Elab.async false
set_option linter.all false
set_option maxRecDepth 100000
namespace K53
open DD
local macro_rules | `(tactic| walk_at "dd") => `(tactic| simp only [ev_seq, ev_next, ev_drop, ev_ret, ev_if, ev_asg, ev_bnm, ev_btp, ev_sac, ev_san, ev_par, ev_par3, ev_put, ev_yes, ev_rev, ev_newD, ev_var, ev_C, ev_op, ev_test, ev_chain, ev_andT, ev_orT, ev_notT, ev_and, ev_or, ev_not, ev_ifE, ev_nil, ev_cons, ev_tup, ev_lst, ev_un, ev_cb, ev_bm0, ev_bm, ev_sl, ev_noP, ev_part, ev_fgt, asB_bl, asI_int, asT_tup, as1_one, as2_two, rInt_ii, rInt0_ii, rAdd_ii, rAdd_tt, rEq_ii, rEq_ss, rNe_ii, rNeg_i, rIx_t, rLen_t, rAbs_i, rToInt_i, rToInt_b, rMax_ii, rMin_ii, rToTup_t, at0, at1, at2, at3, dwipe, List.getElem?_cons_zero, List.getElem?_cons_succ, Option.getD_some, List.set_cons_zero, List.set_cons_succ, List.length_cons, List.length_nil, decide_eq_true_eq, if_true, if_false, ite_true, ite_false, Bool.false_eq_true, reduceIte, Bool.not_true, Bool.not_false, and_true, true_and])
theorem suma_app (f : Box → Int) (b : Box) : ∀ l : List Box, suma f (l ++ [b]) = suma f l + f b
  | [] => by simp [suma]
  | x :: l => by
    show f x + suma f (l ++ [b]) = f x + suma f l + f b
    rw [suma_app f b l]; omega
theorem suma_take {f : Box → Int} {l : List Box} {i : Nat} {b : Box} (h : l[i]? = some b) : suma f (l.take (i + 1)) = suma f (l.take i) + f b := by
  rw [List.take_add_one, h]
  exact suma_app f b _
theorem lshare_nn (a b : Box) : 0 ≤ lshare a b := by
  unfold lshare; split
  · omega
  · exact Int.le_refl _
def st2 (a : Addr) (p : Plan) (few : Bool) (R A : Int) (w9 w10 w11 w12 w13 w14 w15 w16 w17 w18 w19 w20 w21 w22 w23 : Option D) : DSt :=
  [some (.obj a), some (planD p), some (.bl few), some (.tup (p.rooms.map D.str)), some (.int p.wd), some (.int p.ht), some (.tup (p.boxes.map boxD)), some (.int R), some (.int A), w9, w10, w11, w12, w13, w14, w15, w16, w17, w18, w19, w20, w21, w22, w23]
theorem at_map {α : Type} {f : α → D} {l : List α} {i : Nat} {x : α} (h : l[i]? = some x) : atI (l.map f) (i : Int) = some (f x) := atI_nat (by rw [List.getElem?_map, h]; rfl)
theorem plain_box (n : Nat) (b : Box) : Plain (n + 1) (boxD b) := by
  refine ⟨(show 4 ≤ 1000 by decide), fun d hd => ?_⟩
  simp only [List.mem_cons, List.not_mem_nil, or_false] at hd
  rcases hd with rfl | rfl | rfl | rfl <;> (cases n <;> exact True.intro)
theorem off_E (p : Plan) (b : Box) : off p b "E" = p.wd - b.e := by unfold off; rw [if_pos rfl]
theorem off_N (p : Plan) (b : Box) : off p b "N" = p.ht - b.n := by unfold off; rw [if_neg (by decide), if_pos rfl]
theorem off_W (p : Plan) (b : Box) : off p b "W" = b.w := by unfold off; rw [if_neg (by decide), if_neg (by decide), if_pos rfl]
theorem off_S (p : Plan) (b : Box) : off p b "S" = b.s := by unfold off; rw [if_neg (by decide), if_neg (by decide), if_neg (by decide)]
theorem ixE {μ : Mu} {Q : DK} {v : Int} (h0 : 0 ≤ v) (h : v < 2) (q : ∀ e, Q e μ) : rIxD (.tup [.non, .int 9999]) (.int v) μ Q := by
  have : v = 0 ∨ v = 1 := by omega
  rw [rIx_t]
  rcases this with rfl | rfl
  · rw [at0]; exact q _
  · rw [at1]; exact q _
section
variable {a l : Addr} {p : Plan} {few : Bool} {E : DEnds} {μ0 μ : Mu} {R A : Int} {w9 w10 w11 w12 w13 w14 w15 w16 w17 w18 w19 w20 w21 w22 w23 : Option D}
theorem rd_sum3 {b : Box} {r : Str} {v : Int} {e : D} (fi : Fine p) (hb : Has p r b) (tl : Tiler μ a l) 
    (k : ∀ w18 w23 μ', Tiler μ' a l → Keep [a, l] μ μ' → E.nx (st2 a p few R A w9 (some (.int b.w)) (some (.int b.s)) (some (.int b.e)) (some (.int b.n)) (some (.str r)) (some (.tup [.int v, e])) (some (.int (b.e - b.w))) (some (.int (b.n - b.s))) w18 w19 w20 w21 w22 w23) μ') :
    t__law_summed_3 E (st2 a p few R A w9 (some (.int b.w)) (some (.int b.s)) (some (.int b.e)) (some (.int b.n)) (some (.str r)) (some (.tup [.int v, e])) (some (.int (b.e - b.w))) (some (.int (b.n - b.s))) w18 w19 w20 w21 w22 w23) μ := by
  have go : ∀ μ', Tiler μ' a l → Keep [a, l] μ μ' → dSeq (dAsg (dLc (diSeq (dTup (dCons (dC (.str "E")) (dCons (dC (.str "N")) (dCons (dC (.str "W")) (dCons (dC (.str "S")) dNil)))))) (.nm 23) dYes (dCB S_measure_of (dCons (dVar 1) (dCons (dOp rAddD (dTup (dCons (dC (.str "off")) (dCons (dVar 14) (dCons (dVar 23) dNil)))) (dVar 15)) dNil))) [23]) (.nm 18)) t__law_summed_2 E (st2 a p few R A w9 (some (.int b.w)) (some (.int b.s)) (some (.int b.e)) (some (.int b.n)) (some (.str r)) (some (.tup [.int v, e])) (some (.int (b.e - b.w))) (some (.int (b.n - b.s))) w18 w19 w20 w21 w22 w23) μ' := fun μ1 tl1 kp1 => by
    unfold st2
    rw [ev_seq, ev_asg, ev_lc, ev_diSeq]
    walk_at "dd"
    refine ⟨le_line (by decide), ?_⟩
    rw [seqI_tup]
    refine lcB_map (["E", "N", "W", "S"] : List Str) D.str (fun side => .int (off p b side)) rfl (fun _ _ _ => True.intro) (lt_line (by decide)) (fun side _ μ' R h => ?_) (fun po hpo => ?_)
    · walk_at "dd"
      refine ⟨le_line (by decide), le_line (by decide), p, .off r b side, .int v, e, rfl, fi.ok, hb, h⟩
    · have tl2 := tl1.put (m := .lst ((["E", "N", "W", "S"] : List Str).map fun side => D.int (off p b side))) (tl1.nea hpo) (tl1.nel hpo)
      have kp2 : Keep [a, l] μ (put μ1 po (.lst ((["E", "N", "W", "S"] : List Str).map fun side => D.int (off p b side)))) := kp1.trans (Keep.new hpo)
      have ep : put μ1 po (.lst ((["E", "N", "W", "S"] : List Str).map fun side => D.int (off p b side))) po = some (.lst [.int (p.wd - b.e), .int (p.ht - b.n), .int b.w, .int b.s]) := by
        rw [put_same]
        simp only [List.map_cons, List.map_nil, off_E, off_N, off_W, off_S]
      generalize put μ1 po (.lst ((["E", "N", "W", "S"] : List Str).map fun side => D.int (off p b side))) = μ2 at tl2 kp2 ep
      unfold t__law_summed_2
      walk_at "dd"
      rw [rToTup_l ep]
      refine ⟨le_line (by decide), .tup [.int (p.wd - b.e), .int (p.ht - b.n), .int b.w, .int b.s], rfl, ?_, ?_⟩
      · refine ⟨(show 4 ≤ 1000 by decide), fun d hd => ?_⟩
        simp only [List.mem_cons, List.not_mem_nil, or_false] at hd
        rcases hd with rfl | rfl | rfl | rfl <;> exact True.intro
      walk_at "dd"
      unfold t__law_summed_1
      walk_at "dd"
      simp only [rIx_l ep, at0, at1, at2, at3, rAdd_ii]
      refine ⟨le_line (by decide), le_line (by decide), p, .plotW, .int v, e, rfl, fi.ok, True.intro, ?_⟩
      have e1 : p.wd - b.e + (b.e - b.w) + b.w = p.wd := by omega
      have e2 : p.ht - b.n + (b.n - b.s) + b.s = p.ht := by omega
      show rNeD (.int (p.wd - b.e + (b.e - b.w) + b.w)) (.int p.wd) μ2 _
      rw [rNe_ii, e1, decide_eq_true rfl]
      walk_at "dd"
      simp only [rIx_l ep, at0, at1, at2, at3, rAdd_ii]
      refine ⟨le_line (by decide), le_line (by decide), p, .plotH, .int v, e, rfl, fi.ok, True.intro, ?_⟩
      show rNeD (.int (p.ht - b.n + (b.n - b.s) + b.s)) (.int p.ht) μ2 _
      rw [rNe_ii, e2, decide_eq_true rfl]
      walk_at "dd"
      exact k _ _ μ2 tl2 kp2
  unfold t__law_summed_3
  rw [ev_if]
  have hc : ∀ Q : Bool → Mu → Prop, (∀ c μ', Tiler μ' a l → Keep [a, l] μ μ' → Q c μ') → dOrT (dNotT (dTest (dVar 2))) (dTest (dOp rEqD (dCB S__law_tile (dCons (dVar 0) (dCons (dC (.int 5)) dNil))) (dC (.int 0)))) (st2 a p few R A w9 (some (.int b.w)) (some (.int b.s)) (some (.int b.e)) (some (.int b.n)) (some (.str r)) (some (.tup [.int v, e])) (some (.int (b.e - b.w))) (some (.int (b.n - b.s))) w18 w19 w20 w21 w22 w23) μ Q := fun Q q => by
    unfold st2
    walk_at "dd"
    cases few with
    | false => exact q true μ tl (Keep.refl _ _)
    | true => 
      refine ⟨a, l, 5, rfl, tl, by decide, fun v μ2 tl2 kp2 _ _ => ?_⟩
      walk_at "dd"
      exact q _ μ2 tl2 kp2
  refine hc _ (fun c μ1 tl1 kp1 => ?_)
  cases c with
  | true => rw [if_pos rfl]; exact go μ1 tl1 kp1
  | false => rw [if_neg Bool.false_ne_true]; exact k _ _ μ1 tl1 kp1
theorem rd_sum7 {i : Nat} {b : Box} {r : Str} (fi : Fine p) (hbi : p.boxes[i]? = some b) (hri : p.rooms[i]? = some r) (tl : Tiler μ a l)
    (k : ∀ w14 w15 w16 w17 w18 w23 μ', Tiler μ' a l → Keep [a, l] μ μ' → E.nx (st2 a p few (R + rim b) (A + area b) (some (.int (i : Int))) (some (.int b.w)) (some (.int b.s)) (some (.int b.e)) (some (.int b.n)) w14 w15 w16 w17 w18 w19 w20 w21 w22 w23) μ') :
    dSeq (dAsg (dOp rIxD (dVar 6) (dVar 9)) (.tp [10, 11, 12, 13])) t__law_summed_7 E (st2 a p few R A (some (.int (i : Int))) w10 w11 w12 w13 w14 w15 w16 w17 w18 w19 w20 w21 w22 w23) μ := by
  have hb : Has p r b := ⟨i, hri, hbi⟩
  have hmem : b ∈ p.boxes := List.mem_of_getElem? hbi
  obtain ⟨hp1, hp2⟩ := fi.good.pr b hmem
  have hinn := fi.good.inn b hmem
  have hs := fi.sml
  unfold st2
  walk_at "dd"
  rw [at_map hbi]
  have eb : boxD b = .tup [.int b.w, .int b.s, .int b.e, .int b.n] := rfl
  dsimp only
  rw [eb]
  walk_at "dd"
  unfold t__law_summed_7
  walk_at "dd"
  rw [at_map hri]
  refine ⟨a, l, 9, rfl, tl, by decide, fun v μ1 tl1 kp1 _ _ => ?_⟩
  refine ⟨le_line (by decide), a, l, 2, rfl, tl1, by decide, fun u μ2 tl2 kp2 u0 u1 => ?_⟩
  refine ixE u0 (by omega) (fun e => ?_)
  refine ⟨le_line (by decide), le_line (by decide), ?_⟩
  unfold t__law_summed_6
  walk_at "dd"
  refine ⟨le_line (by decide), le_line (by decide), p, .width r b, .int v, e, rfl, fi.ok, hb, ?_⟩
  refine ⟨le_line (by decide), le_line (by decide), p, .height r b, .int v, e, rfl, fi.ok, hb, ?_⟩
  unfold t__law_summed_5
  show dSeq _ t__law_summed_4 E (st2 a p few R A (some (.int (i : Int))) (some (.int b.w)) (some (.int b.s)) (some (.int b.e)) (some (.int b.n)) (some (.str r)) (some (.tup [.int v, e])) (some (.int (b.e - b.w))) (some (.int (b.n - b.s))) w18 w19 w20 w21 w22 w23) μ2
  unfold st2
  walk_at "dd"
  refine ⟨_, rfl, ?_⟩
  walk_at "dd"
  refine ⟨_, rfl, ?_⟩
  walk_at "dd"
  refine ⟨p, r, b, rfl, fi.ok, hb, ?_⟩
  rw [at_map hbi]
  refine ⟨boxD b, rfl, plain_box _ b, ?_⟩
  walk_at "dd"
  unfold t__law_summed_4
  walk_at "dd"
  refine ⟨DD.MulOk.l ⟨by decide, by decide⟩, DD.MulOk.l ⟨by omega, by omega⟩, ?_⟩
  have e1 : R + 2 * (b.e - b.w + (b.n - b.s)) = R + rim b := rfl
  have e2 : A + (b.e - b.w) * (b.n - b.s) = A + area b := rfl
  rw [e1, e2]
  exact rd_sum3 fi hb tl2 (fun w18 w23 μ3 tl3 kp3 => k _ _ _ _ w18 w23 μ3 tl3 ((kp1.trans kp2).trans kp3))
/-- the sum over pairs, as far as it has been made -/
theorem rd_sum8 {i j : Nat} {b c : Box} {r r' : Str} {S : Int} (fi : Fine p) (hij : i < j) (hbi : p.boxes[i]? = some b) (hri : p.rooms[i]? = some r) (hbj : p.boxes[j]? = some c) (hrj : p.rooms[j]? = some r') (tl : Tiler μ a l)
    (k : ∀ w21 w22 μ', Tiler μ' a l → Keep [a, l] μ μ' → E.nx (st2 a p few R A (some (.int (i : Int))) w10 w11 w12 w13 w14 w15 w16 w17 w18 (some (.int (S + lshare b c))) (some (.int (j : Int))) w21 w22 w23) μ') :
    dSeq (dAsg (dCB S__law_share (dCons (dOp rIxD (dVar 6) (dVar 9)) (dCons (dOp rIxD (dVar 6) (dVar 20)) dNil))) (.nm 21)) t__law_summed_10 E (st2 a p few R A (some (.int (i : Int))) w10 w11 w12 w13 w14 w15 w16 w17 w18 (some (.int S)) (some (.int (j : Int))) w21 w22 w23) μ := by
  have hb : Has p r b := ⟨i, hri, hbi⟩
  have hc : Has p r' c := ⟨j, hrj, hbj⟩
  obtain ⟨hi, ebi⟩ := List.getElem?_eq_some_iff.mp hbi
  obtain ⟨hj, ebj⟩ := List.getElem?_eq_some_iff.mp hbj
  have hno : NO b c := by
    have := List.pairwise_iff_getElem.mp fi.good.no i j hi hj hij
    rw [ebi, ebj] at this; exact this
  have h1 := share_eq (fi.good.pr b (List.mem_of_getElem? hbi)) (fi.good.pr c (List.mem_of_getElem? hbj)) hno
  have h2 : stretch c b = lshare b c := by rw [stretch_comm]; exact h1
  have hnn := lshare_nn b c
  unfold st2
  walk_at "dd"
  rw [at_map hbi, at_map hbj]
  refine ⟨b, c, rfl, ?_⟩
  dsimp only
  have told : ∀ μ', Tiler μ' a l → Keep [a, l] μ μ' → t__law_summed_9 E (st2 a p few R A (some (.int (i : Int))) w10 w11 w12 w13 w14 w15 w16 w17 w18 (some (.int S)) (some (.int (j : Int))) (some (.int (lshare b c))) (some (.int (lshare b c))) w23) μ' := fun μ1 tl1 kp1 => by
    unfold t__law_summed_9 st2
    walk_at "dd"
    refine ⟨_, rfl, ?_⟩
    walk_at "dd"
    unfold t__law_summed_8
    walk_at "dd"
    refine ite2 (fun c1 => ?_) (fun c1 => ?_)
    · rw [at_map hri, at_map hrj]
      refine ⟨le_line (by decide), p, .touch r r' b c, .int 0, .non, rfl, fi.ok, ⟨hb, hc⟩, lshare b c, ?_, ?_⟩
      · show [D.int (stretch b c), _] = _
        rw [h1]
      walk_at "dd"
      exact k _ _ μ1 tl1 kp1
    · exact k _ _ μ1 tl1 kp1
  have go : ∀ μ', Tiler μ' a l → Keep [a, l] μ μ' → dSeq (dAsg (dIfE (dTest (dOp rEqD (dCB S__law_tile (dCons (dVar 0) (dCons (dC (.int 2)) dNil))) (dC (.int 0)))) (dCB S_share_of (dCons (dVar 1) (dCons (dOp rIxD (dVar 3) (dVar 9)) (dCons (dOp rIxD (dVar 3) (dVar 20)) dNil)))) (dCB S_share_of (dCons (dVar 1) (dCons (dOp rIxD (dVar 3) (dVar 20)) (dCons (dOp rIxD (dVar 3) (dVar 9)) dNil))))) (.nm 22)) t__law_summed_9 E (st2 a p few R A (some (.int (i : Int))) w10 w11 w12 w13 w14 w15 w16 w17 w18 (some (.int S)) (some (.int (j : Int))) (some (.int (lshare b c))) w22 w23) μ' := fun μ1 tl1 kp1 => by
    unfold st2
    walk_at "dd"
    refine ⟨a, l, 2, rfl, tl1, by decide, fun v μ2 tl2 kp2 _ _ => ?_⟩
    walk_at "dd"
    simp only [at_map hri, at_map hrj]
    refine ite2 (fun _ => ?_) (fun _ => ?_)
    · refine ⟨p, r, r', b, c, rfl, fi.ok, hb, hc, ?_⟩
      rw [h1]
      exact told μ2 tl2 (kp1.trans kp2)
    · refine ⟨p, r', r, c, b, rfl, fi.ok, hc, hb, ?_⟩
      rw [h2]
      exact told μ2 tl2 (kp1.trans kp2)
  unfold t__law_summed_10
  rw [ev_if]
  have hcnd : ∀ Q : Bool → Mu → Prop, (∀ μ', Tiler μ' a l → Keep [a, l] μ μ' → Q true μ') → (lshare b c = 0 → ∀ μ', Tiler μ' a l → Keep [a, l] μ μ' → Q false μ') → dOrT (dTest (dOp rGtD (dVar 21) (dC (.int 0)))) (dTest (dOp rEqD (dCB S__law_tile (dCons (dVar 0) (dCons (dC (.int 40)) dNil))) (dC (.int 0)))) (st2 a p few R A (some (.int (i : Int))) w10 w11 w12 w13 w14 w15 w16 w17 w18 (some (.int S)) (some (.int (j : Int))) (some (.int (lshare b c))) w22 w23) μ Q := fun Q q1 q2 => by
    unfold st2
    walk_at "dd"
    refine ite2 (fun _ => q1 μ tl (Keep.refl _ _)) (fun c1 => ⟨a, l, 40, rfl, tl, by decide, fun v μ2 tl2 kp2 _ _ => ?_⟩)
    walk_at "dd"
    cases decide (v = 0) with
    | true => exact q1 μ2 tl2 kp2
    | false => exact q2 (by omega) μ2 tl2 kp2
  refine hcnd _ (fun μ1 tl1 kp1 => ?_) (fun e0 μ1 tl1 kp1 => ?_)
  · rw [if_pos rfl]
    exact go μ1 tl1 kp1
  · rw [if_neg Bool.false_ne_true]
    have := k (some (.int (lshare b c))) w22 μ1 tl1 kp1
    rw [e0, Int.add_zero] at this
    rw [e0]
    exact this
end
theorem pairs_drop {f : Box → Box → Int} {l : List Box} {i : Nat} {b : Box} (h : l[i]? = some b) : pairs f (l.drop i) = suma (f b) (l.drop (i + 1)) + pairs f (l.drop (i + 1)) := by
  obtain ⟨hi, e⟩ := List.getElem?_eq_some_iff.mp h
  rw [List.drop_eq_getElem_cons hi, e]
  rfl
theorem rd__law_summed (ds : List D) (μ : Mu) (Q : DK) (h : S__law_summed ds μ Q) : t__law_summed (En Q) (dstart N__law_summed ds) μ := by
  obtain ⟨a, l, p, few, rfl, tl, fi, q⟩ := h
  show t__law_summed _ [some (.obj a), some (planD p), some (.bl few), none, none, none, none, none, none, none, none, none, none, none, none, none, none, none, none, none, none, none, none, none] μ
  have hlen := fi.ok.len
  have hfew := fi.ok.few
  have hs := fi.sml
  have hpos := fi.pos
  unfold t__law_summed
  rw [ev_seq, ev_asg, ev_var]
  show dBind (.tp [3, 4, 5, 6]) (.tup [.tup (p.rooms.map .str), .int p.wd, .int p.ht, .tup (p.boxes.map boxD)]) _ _
  walk_at "dd"
  unfold t__law_summed_15
  walk_at "dd"
  refine ⟨le_line (by decide), ?_⟩
  unfold t__law_summed_14
  rw [ev_seq]
  have gi : ∀ i : Nat, i < p.rooms.length → ∃ r b, p.rooms[i]? = some r ∧ p.boxes[i]? = some b := fun i hi => ⟨p.rooms[i], p.boxes[i]'(by omega), List.getElem?_eq_getElem hi, List.getElem?_eq_getElem (by omega)⟩
  refine for_r1 (p.rooms.length : Int) (fun R h => ?_) ⟨by omega, by omega⟩ (fun i s μ' => ∃ w9 w10 w11 w12 w13 w14 w15 w16 w17 w18 w19 w20 w21 w22 w23, s = st2 a p few (suma rim (p.boxes.take i)) (suma area (p.boxes.take i)) w9 w10 w11 w12 w13 w14 w15 w16 w17 w18 w19 w20 w21 w22 w23 ∧ Tiler μ' a l ∧ Keep [a, l] μ μ')
    ⟨none, none, none, none, none, none, none, none, none, none, none, none, none, none, none, rfl, tl, Keep.refl _ _⟩ (fun i s μ' hi ⟨w9, w10, w11, w12, w13, w14, w15, w16, w17, w18, w19, w20, w21, w22, w23, es, tl1, kp1⟩ => ?_) (fun s μ' ⟨w9, w10, w11, w12, w13, w14, w15, w16, w17, w18, w19, w20, w21, w22, w23, es, tl1, kp1⟩ => ?_)
  · walk_at "dd"
    rw [List.length_map]
    exact h
  · subst es
    obtain ⟨r, b, hr, hb⟩ := gi i (by omega)
    unfold st2
    rw [ev_bnm]
    refine rd_sum7 fi hb hr tl1 ?_
    intro w14 w15 w16 w17 w18 w23 μ2 tl2 kp2
    exact ⟨_, _, _, _, _, _, _, _, _, _, _, _, _, _, _, by rw [suma_take hb, suma_take hb]; rfl, tl2, kp1.trans kp2⟩
  · subst es
    have eR : suma rim (p.boxes.take (p.rooms.length : Int).toNat) = suma rim p.boxes := by rw [show (p.rooms.length : Int).toNat = p.boxes.length by omega, List.take_length]
    have eA : suma area (p.boxes.take (p.rooms.length : Int).toNat) = suma area p.boxes := by rw [show (p.rooms.length : Int).toNat = p.boxes.length by omega, List.take_length]
    rw [eR, eA]
    unfold t__law_summed_13 st2
    walk_at "dd"
    unfold t__law_summed_12
    rw [ev_seq]
    refine for_r1 (p.rooms.length : Int) (fun R h => ?_) ⟨by omega, by omega⟩ (fun i s μ' => ∃ w9 w10 w11 w12 w13 w14 w15 w16 w17 w18 w20 w21 w22 w23, s = st2 a p few (suma rim p.boxes) (suma area p.boxes) w9 w10 w11 w12 w13 w14 w15 w16 w17 w18 (some (.int (pairs lshare p.boxes - pairs lshare (p.boxes.drop i)))) w20 w21 w22 w23 ∧ Tiler μ' a l ∧ Keep [a, l] μ μ')
      ⟨w9, w10, w11, w12, w13, w14, w15, w16, w17, w18, w20, w21, w22, w23, by rw [List.drop_zero, Int.sub_self]; rfl, tl1, kp1⟩ (fun i s μ' hi ⟨w9, w10, w11, w12, w13, w14, w15, w16, w17, w18, w20, w21, w22, w23, es, tl2, kp2⟩ => ?_) (fun s μ' ⟨w9, w10, w11, w12, w13, w14, w15, w16, w17, w18, w20, w21, w22, w23, es, tl2, kp2⟩ => ?_)
    · walk_at "dd"
      rw [List.length_map]
      exact h
    · subst es
      have hi' : i < p.rooms.length := by omega
      obtain ⟨r, b, hr, hb⟩ := gi i hi'
      rw [ev_bnm]
      refine for_r2 ((i : Int) + 1) (p.rooms.length : Int) (fun R h => ?_) ⟨by omega, by omega⟩ ⟨by omega, by omega⟩ (fun j s μ' => ∃ w20 w21 w22, s = st2 a p few (suma rim p.boxes) (suma area p.boxes) (some (.int (i : Int))) w10 w11 w12 w13 w14 w15 w16 w17 w18 (some (.int (pairs lshare p.boxes - pairs lshare (p.boxes.drop i) + suma (lshare b) ((p.boxes.drop (i + 1)).take j)))) w20 w21 w22 w23 ∧ Tiler μ' a l ∧ Keep [a, l] μ μ')
        ⟨w20, w21, w22, by rw [List.take_zero]; show _ = st2 a p few _ _ _ _ _ _ _ _ _ _ _ _ (some (.int (_ + 0))) _ _ _ _; rw [Int.add_zero]; rfl, tl2, kp2⟩ (fun j s μ' hj ⟨w20, w21, w22, es, tl3, kp3⟩ => ?_) (fun s μ' ⟨w20, w21, w22, es, tl3, kp3⟩ => ?_)
      · unfold st2
        walk_at "dd"
        rw [List.length_map]
        exact h
      · subst es
        have hj' : i + 1 + j < p.rooms.length := by omega
        obtain ⟨r', c, hr', hc⟩ := gi (i + 1 + j) hj'
        rw [ev_bnm]
        have e : (i : Int) + 1 + (j : Int) = ((i + 1 + j : Nat) : Int) := by omega
        rw [e]
        refine rd_sum8 fi (by omega) hb hr hc hr' tl3 ?_
        intro w21 w22 μ4 tl4 kp4
        refine ⟨some (.int ((i + 1 + j : Nat) : Int)), w21, w22, ?_, tl4, kp3.trans kp4⟩
        have hd : (p.boxes.drop (i + 1))[j]? = some c := by rw [List.getElem?_drop]; exact hc
        rw [suma_take hd, ← Int.add_assoc]
      · subst es
        refine ⟨some (.int (i : Int)), w10, w11, w12, w13, w14, w15, w16, w17, w18, w20, w21, w22, w23, ?_, tl3, kp3⟩
        have e : ((p.boxes.drop (i + 1)).take ((p.rooms.length : Int) - ((i : Int) + 1)).toNat) = p.boxes.drop (i + 1) := by
          apply List.take_of_length_le
          rw [List.length_drop]
          omega
        have e2 : pairs lshare p.boxes - pairs lshare (p.boxes.drop i) + suma (lshare b) (p.boxes.drop (i + 1)) = pairs lshare p.boxes - pairs lshare (p.boxes.drop (i + 1)) := by
          rw [pairs_drop hb]; omega
        rw [e, e2]
    · subst es
      have e : pairs lshare (p.boxes.drop (p.rooms.length : Int).toNat) = 0 := by
        rw [List.drop_eq_nil_of_le (by omega)]; rfl
      rw [e, Int.sub_zero]
      unfold t__law_summed_11 st2
      walk_at "dd"
      refine ⟨DD.MulOk.l ⟨by decide, by decide⟩, DD.MulOk.l ⟨by decide, by decide⟩, ?_⟩
      rw [if_pos fi.good.rims]
      refine ⟨DD.MulOk.l ⟨by omega, by omega⟩, ?_⟩
      rw [decide_eq_true fi.good.area]
      exact fgt_self (q μ' tl2 kp2)
end K53
end
section
open PySem PySem.Spec PyProof.Rows L2
set_option Elab.async false
set_option linter.all false
set_option maxRecDepth 100000
namespace K53
open DD
local macro_rules | `(tactic| walk_at "dd") => `(tactic| simp only [ev_seq, ev_next, ev_drop, ev_ret, ev_if, ev_asg, ev_bnm, ev_btp, ev_sac, ev_san, ev_par, ev_par3, ev_put, ev_yes, ev_rev, ev_newD, ev_var, ev_C, ev_op, ev_test, ev_chain, ev_andT, ev_orT, ev_notT, ev_and, ev_or, ev_not, ev_ifE, ev_nil, ev_cons, ev_tup, ev_lst, ev_un, ev_cb, ev_bm0, ev_bm, ev_sl, ev_noP, ev_part, ev_fgt, asB_bl, asI_int, asT_tup, as1_one, as2_two, rInt_ii, rInt0_ii, rAdd_ii, rAdd_tt, rEq_ii, rEq_ss, rNe_ii, rNeg_i, rIx_t, rLen_t, rAbs_i, rToInt_i, rToInt_b, rMax_ii, rMin_ii, rToTup_t, at0, at1, at2, at3, dwipe, List.getElem?_cons_zero, List.getElem?_cons_succ, Option.getD_some, List.set_cons_zero, List.set_cons_succ, List.length_cons, List.length_nil, decide_eq_true_eq, if_true, if_false, ite_true, ite_false, Bool.false_eq_true, reduceIte, Bool.not_true, Bool.not_false, and_true, true_and])
theorem scale_one (p : Plan) : scale 1 p = p := by
  unfold scale
  have : (p.boxes.map fun b => (⟨b.w * 1, b.s * 1, b.e * 1, b.n * 1⟩ : Box)) = p.boxes := by
    rw [show (fun b : Box => (⟨b.w * 1, b.s * 1, b.e * 1, b.n * 1⟩ : Box)) = id from funext fun b => by simp]
    exact List.map_id _
  rw [this, Int.mul_one, Int.mul_one]
theorem good_mir {W H : Int} {l : List Box} (g : Good W H l) : Good W H (l.map fun b => ⟨W - b.e, b.s, W - b.w, b.n⟩) := by
  refine ⟨fun c hc => ?_, fun c hc => ?_, ?_, ?_, ?_⟩
  · obtain ⟨b, hb, rfl⟩ := List.mem_map.mp hc
    obtain ⟨h1, h2⟩ := g.pr b hb
    exact ⟨by dsimp only; omega, h2⟩
  · obtain ⟨b, hb, rfl⟩ := List.mem_map.mp hc
    have := g.inn b hb
    dsimp only; omega
  · rw [List.pairwise_map]
    exact g.no.imp fun {a b} h => by unfold NO at h ⊢; dsimp only; omega
  · rw [suma_map (g := rim) (fun b => by unfold rim; dsimp only; omega), pairs_map (g := lshare) (fun a b => by unfold lshare; dsimp only; congr 2 <;> omega)]
    exact g.rims
  · rw [suma_map (g := area) (fun b => by unfold area; dsimp only; congr 1; omega)]
    exact g.area
theorem good_trn {W H : Int} {l : List Box} (g : Good W H l) : Good H W (l.map fun b => ⟨H - b.n, b.w, H - b.s, b.e⟩) := by
  have h := good_mir (good_fl g)
  rw [List.map_map] at h
  exact h
theorem suma_mul {f g : Box → Int} {h : Box → Box} {k : Int} (e : ∀ b, f (h b) = g b * k) : ∀ l : List Box, suma f (l.map h) = suma g l * k
  | [] => (Int.zero_mul k).symm
  | b :: l => by
    show f (h b) + suma f (l.map h) = (g b + suma g l) * k
    rw [e, suma_mul e l, Int.add_mul]
theorem pairs_mul {f g : Box → Box → Int} {h : Box → Box} {k : Int} (e : ∀ a b, f (h a) (h b) = g a b * k) : ∀ l : List Box, pairs f (l.map h) = pairs g l * k
  | [] => (Int.zero_mul k).symm
  | b :: l => by
    show suma (f (h b)) (l.map h) + pairs f (l.map h) = (suma (g b) l + pairs g l) * k
    rw [suma_mul (e b) l, pairs_mul e l, Int.add_mul]
theorem min_mul {x y k : Int} (hk : 0 < k) : min (x * k) (y * k) = min x y * k := by
  rcases Int.le_total x y with h | h
  · rw [Int.min_eq_left h, Int.min_eq_left (Int.mul_le_mul_of_nonneg_right h (Int.le_of_lt hk))]
  · rw [Int.min_eq_right h, Int.min_eq_right (Int.mul_le_mul_of_nonneg_right h (Int.le_of_lt hk))]
theorem max_mul {x y k : Int} (hk : 0 < k) : max (x * k) (y * k) = max x y * k := by
  rcases Int.le_total x y with h | h
  · rw [Int.max_eq_right h, Int.max_eq_right (Int.mul_le_mul_of_nonneg_right h (Int.le_of_lt hk))]
  · rw [Int.max_eq_left h, Int.max_eq_left (Int.mul_le_mul_of_nonneg_right h (Int.le_of_lt hk))]
def grow (k : Int) (b : Box) : Box := ⟨b.w * k, b.s * k, b.e * k, b.n * k⟩
theorem lshare_grow {k : Int} (hk : 0 < k) (a b : Box) : lshare (grow k a) (grow k b) = lshare a b * k := by
  unfold lshare grow
  dsimp only
  simp only [min_mul hk, max_mul hk, ← Int.sub_mul]
  have e0 : max 0 (max (min a.e b.e - max a.w b.w) (min a.n b.n - max a.s b.s) * k) = max 0 (max (min a.e b.e - max a.w b.w) (min a.n b.n - max a.s b.s)) * k := by
    have := max_mul (x := 0) (y := max (min a.e b.e - max a.w b.w) (min a.n b.n - max a.s b.s)) hk
    rw [Int.zero_mul] at this
    exact this
  rw [e0]
  split
  · rename_i c
    rcases Int.mul_eq_zero.mp c with c | c
    · rw [if_pos c]
    · omega
  · rename_i c
    rw [if_neg (fun z => c (by rw [z, Int.zero_mul])), Int.zero_mul]
theorem good_grow {W H k : Int} {l : List Box} (hk : 0 < k) (g : Good W H l) : Good (W * k) (H * k) (l.map (grow k)) := by
  have ml : ∀ {x y : Int}, x ≤ y → x * k ≤ y * k := fun h => Int.mul_le_mul_of_nonneg_right h (Int.le_of_lt hk)
  have mt : ∀ {x y : Int}, x < y → x * k < y * k := fun h => Int.mul_lt_mul_of_pos_right h hk
  refine ⟨fun c hc => ?_, fun c hc => ?_, ?_, ?_, ?_⟩
  · obtain ⟨b, hb, rfl⟩ := List.mem_map.mp hc
    obtain ⟨h1, h2⟩ := g.pr b hb
    exact ⟨mt h1, mt h2⟩
  · obtain ⟨b, hb, rfl⟩ := List.mem_map.mp hc
    obtain ⟨h1, h2, h3, h4⟩ := g.inn b hb
    refine ⟨?_, ?_, ml h3, ml h4⟩
    · have := ml h1; rw [Int.zero_mul] at this; exact this
    · have := ml h2; rw [Int.zero_mul] at this; exact this
  · rw [List.pairwise_map]
    exact g.no.imp fun {a b} h => by
      unfold NO at h ⊢
      unfold grow
      dsimp only
      rcases h with h | h | h | h
      · exact .inl (ml h)
      · exact .inr (.inl (ml h))
      · exact .inr (.inr (.inl (ml h)))
      · exact .inr (.inr (.inr (ml h)))
  · rw [suma_mul (g := rim) (k := k) (fun b => ?_), pairs_mul (lshare_grow hk), g.rims]
    · rw [Int.add_mul, Int.mul_assoc, Int.mul_assoc, Int.add_mul]
    · unfold rim grow
      dsimp only
      rw [← Int.sub_mul, ← Int.sub_mul, ← Int.add_mul, Int.mul_assoc]
  · rw [suma_mul (g := area) (k := k * k) (fun b => ?_), g.area]
    · rw [Int.mul_assoc, Int.mul_assoc]; congr 1; rw [← Int.mul_assoc, ← Int.mul_assoc, Int.mul_comm H k]
    · unfold area grow
      dsimp only
      rw [← Int.sub_mul, ← Int.sub_mul, Int.mul_assoc, Int.mul_assoc]; congr 1; rw [← Int.mul_assoc, ← Int.mul_assoc, Int.mul_comm k]
end K53
end
section
open PySem PySem.Spec PyProof.Rows L2
set_option Elab.async false
set_option linter.all false
set_option maxRecDepth 100000
namespace K53
open DD
local macro_rules | `(tactic| walk_at "dd") => `(tactic| simp only [ev_seq, ev_next, ev_drop, ev_ret, ev_if, ev_asg, ev_bnm, ev_btp, ev_sac, ev_san, ev_par, ev_par3, ev_put, ev_yes, ev_rev, ev_newD, ev_var, ev_C, ev_op, ev_test, ev_chain, ev_andT, ev_orT, ev_notT, ev_and, ev_or, ev_not, ev_ifE, ev_nil, ev_cons, ev_tup, ev_lst, ev_un, ev_cb, ev_bm0, ev_bm, ev_sl, ev_noP, ev_part, ev_fgt, asB_bl, asI_int, asT_tup, as1_one, as2_two, rInt_ii, rInt0_ii, rAdd_ii, rAdd_tt, rEq_ii, rEq_ss, rNe_ii, rNeg_i, rIx_t, rLen_t, rAbs_i, rToInt_i, rToInt_b, rMax_ii, rMin_ii, rToTup_t, at0, at1, at2, at3, dwipe, List.getElem?_cons_zero, List.getElem?_cons_succ, Option.getD_some, List.set_cons_zero, List.set_cons_succ, List.length_cons, List.length_nil, decide_eq_true_eq, if_true, if_false, ite_true, ite_false, Bool.false_eq_true, reduceIte, Bool.not_true, Bool.not_false, and_true, true_and])
structure Fit (p : Plan) (m : Int) : Prop where
  fine : Fine p
  bd : p.wd < m ∧ p.ht < m
theorem Fit.mir {p : Plan} {m : Int} (f : Fit p m) : Fit (mirror p) m :=
  ⟨⟨⟨by show p.rooms.length = (p.boxes.map _).length; rw [List.length_map]; exact f.fine.ok.len, f.fine.ok.nd, f.fine.ok.few⟩, good_mir f.fine.good, f.fine.pos, f.fine.sml⟩, f.bd⟩
theorem Fit.trn {p : Plan} {m : Int} (f : Fit p m) : Fit (turn1 p) m :=
  ⟨⟨⟨by show p.rooms.length = (p.boxes.map _).length; rw [List.length_map]; exact f.fine.ok.len, f.fine.ok.nd, f.fine.ok.few⟩, good_trn f.fine.good, ⟨f.fine.pos.2, f.fine.pos.1⟩, ⟨f.fine.sml.2, f.fine.sml.1⟩⟩, ⟨f.bd.2, f.bd.1⟩⟩
theorem Fit.trns {m : Int} : ∀ (n : Nat) {p : Plan}, Fit p m → Fit (turnN n p) m
  | 0, _, f => f
  | n + 1, _, f => Fit.trns n f.trn
theorem Fit.scl {p : Plan} {k : Int} (h1 : 1 ≤ k) (h2 : k ≤ 40) (f : Fit p (2 ^ 20)) : Fine (scale k p) := by
  have h3 := f.bd
  have h4 := f.fine.pos
  have e1 : p.wd * k ≤ 2 ^ 20 * 40 := Int.mul_le_mul (Int.le_of_lt h3.1) h2 (by omega) (by decide)
  have e2 : p.ht * k ≤ 2 ^ 20 * 40 := Int.mul_le_mul (Int.le_of_lt h3.2) h2 (by omega) (by decide)
  have e3 : 0 < p.wd * k := Int.mul_pos h4.1 (by omega)
  have e4 : 0 < p.ht * k := Int.mul_pos h4.2 (by omega)
  exact ⟨⟨by show p.rooms.length = (p.boxes.map _).length; rw [List.length_map]; exact f.fine.ok.len, f.fine.ok.nd, f.fine.ok.few⟩, good_grow (by omega) f.fine.good, ⟨e3, e4⟩, by show p.wd * k < 2 ^ 40; omega, by show p.ht * k < 2 ^ 40; omega⟩
theorem plain_plan (n : Nat) {p : Plan} (h1 : p.rooms.length ≤ 40) (h2 : p.boxes.length ≤ 40) : Plain (n + 3) (planD p) := by
  refine ⟨(show 4 ≤ 1000 by decide), fun d hd => ?_⟩
  simp only [List.mem_cons, List.not_mem_nil, or_false] at hd
  rcases hd with rfl | rfl | rfl | rfl
  · refine ⟨by rw [List.length_map]; omega, fun d hd => ?_⟩
    obtain ⟨r, _, rfl⟩ := List.mem_map.mp hd
    cases n <;> exact True.intro
  · cases n <;> exact True.intro
  · cases n <;> exact True.intro
  · refine ⟨by rw [List.length_map]; omega, fun d hd => ?_⟩
    obtain ⟨b, _, rfl⟩ := List.mem_map.mp hd
    exact plain_box n b
theorem ix2 {x y : D} {μ : Mu} {Q : DK} {v : Int} (h0 : 0 ≤ v) (h : v < 2) (q : ∀ d, d = x ∨ d = y → Q d μ) : rIxD (.tup [x, y]) (.int v) μ Q := by
  have : v = 0 ∨ v = 1 := by omega
  rw [rIx_t]
  rcases this with rfl | rfl
  · rw [at0]; exact q _ (.inl rfl)
  · rw [at1]; exact q _ (.inr rfl)
theorem ix3 {x y z : D} {μ : Mu} {Q : DK} {v : Int} (h0 : 0 ≤ v) (h : v < 3) (q : ∀ d, d = x ∨ d = y ∨ d = z → Q d μ) : rIxD (.tup [x, y, z]) (.int v) μ Q := by
  have : v = 0 ∨ v = 1 ∨ v = 2 := by omega
  rw [rIx_t]
  rcases this with rfl | rfl | rfl
  · rw [at0]; exact q _ (.inl rfl)
  · rw [at1]; exact q _ (.inr (.inl rfl))
  · rw [at2]; exact q _ (.inr (.inr rfl))
theorem ix4 {x y z w : D} {a : Addr} {μ : Mu} {Q : DK} {v : Int} (e : μ a = some (.lst [x, y, z, w])) (h0 : 0 ≤ v) (h : v < 4) (q : ∀ d, d = x ∨ d = y ∨ d = z ∨ d = w → Q d μ) : rIxD (.obj a) (.int v) μ Q := by
  have : v = 0 ∨ v = 1 ∨ v = 2 ∨ v = 3 := by omega
  rw [rIx_l e]
  rcases this with rfl | rfl | rfl | rfl
  · rw [at0]; exact q _ (.inl rfl)
  · rw [at1]; exact q _ (.inr (.inl rfl))
  · rw [at2]; exact q _ (.inr (.inr (.inl rfl)))
  · rw [at3]; exact q _ (.inr (.inr (.inr rfl)))
theorem mv_a {p : Plan} {t : Int} : scale 1 (turnN (t % 4).toNat (if (0 : Int) = 1 then mirror p else p)) = turnN (t % 4).toNat p := by rw [scale_one, if_neg (by decide)]
theorem mv_b {p : Plan} : scale 1 (turnN ((0 : Int) % 4).toNat (if (1 : Int) = 1 then mirror p else p)) = mirror p := by rw [scale_one, if_pos rfl]; rfl
theorem mv_c {p : Plan} {k : Int} : scale k (turnN ((0 : Int) % 4).toNat (if (0 : Int) = 1 then mirror p else p)) = scale k p := by rw [if_neg (by decide)]; rfl
theorem mv_d {p : Plan} {k t : Int} : scale k (turnN (t % 4).toNat (if (0 : Int) = 1 then mirror p else p)) = scale k (turnN (t % 4).toNat p) := by rw [if_neg (by decide)]
theorem mir_len (p : Plan) : (mirror p).boxes.length = p.boxes.length := List.length_map _
section
variable {E : DEnds} {a l : Addr} {m : Int} {μ0 μ : Mu} {p : Plan} {sc u4 u5 u6 u7 : Option D}
theorem rd_law7 (f : Fit p (2 ^ 20)) (tl : Tiler μ a l) (k : ∀ μ', E.rt (.bl true) μ') : t_law_7 E [sc, some (.obj a), some (.int m), some (planD p), u4, u5, u6, u7] μ := by
  have hr : p.rooms.length ≤ 40 := f.fine.ok.few
  have hb : p.boxes.length ≤ 40 := by rw [← f.fine.ok.len]; exact hr
  have hpos := f.fine.pos
  have hbd := f.bd
  unfold t_law_7
  walk_at "dd"
  refine ⟨a, l, 9, rfl, tl, by decide, fun v1 μ1 tl1 kp1 _ _ => ?_⟩
  walk_at "dd"
  refine ⟨a, l, 2001, rfl, tl1, by decide, fun v2 μ2 tl2 kp2 _ _ => ?_⟩
  walk_at "dd"
  refine ⟨le_line (by decide), a, l, 2, rfl, tl2, by decide, fun v3 μ3 tl3 kp3 v0 vl => ?_⟩
  refine ix2 v0 (by omega) (fun d hd => ?_)
  obtain ⟨t, rfl⟩ : ∃ t : Int, d = .int t := hd.elim (fun e => ⟨_, e⟩) fun e => ⟨_, e⟩
  unfold t_law_6
  rw [ev_seq]
  show dAsg _ _ _ [sc, some (.obj a), some (.int m), some (.tup [.tup (p.rooms.map .str), .int p.wd, .int p.ht, .tup (p.boxes.map boxD)]), some (.int t), u5, u6, u7] μ3
  walk_at "dd"
  refine ⟨wide_div (b := 64) (by omega) (by omega) (by decide) (by decide), a, l, _, rfl, tl3, by omega, fun v4 μ4 tl4 kp4 w0 wl => ?_⟩
  walk_at "dd"
  have hk1 : 1 ≤ 1 + v4 := by omega
  have hk2 : 1 + v4 ≤ 40 := by omega
  generalize 1 + v4 = k4 at hk1 hk2
  unfold t_law_5
  show dSeq _ t_law_4 E [sc, some (.obj a), some (.int m), some (planD p), some (.int t), some (.int k4), u6, u7] μ4
  walk_at "dd"
  refine ⟨p, 0, t, 1, rfl, hb, ⟨by decide, by decide⟩, p, 1, 0, 1, rfl, hb, ⟨by decide, by decide⟩, p, 0, 0, k4, rfl, hb, ⟨by omega, by omega⟩, le_line (by decide), fun pd hpd => ?_⟩
  rw [mv_a, mv_b, mv_c]
  have tl5 := tl4.put (m := .lst [planD (turnN (t % 4).toNat p), planD (mirror p), planD (scale k4 p)]) (tl4.nea hpd) (tl4.nel hpd)
  have ed : put μ4 pd (.lst [planD (turnN (t % 4).toNat p), planD (mirror p), planD (scale k4 p)]) pd = _ := put_same
  generalize put μ4 pd (.lst [planD (turnN (t % 4).toNat p), planD (mirror p), planD (scale k4 p)]) = μ5 at tl5 ed
  unfold t_law_4
  walk_at "dd"
  refine ⟨p, t, rfl, hb, p, rfl, hb, p, k4, rfl, hb, ⟨by omega, by omega⟩, le_line (by decide), ?_⟩
  rw [rToTup_l ed]
  have fT := Fit.trns (t % 4).toNat f
  have fM := f.mir
  have fS := f.scl hk1 hk2
  have fMT := Fit.trns (t % 4).toNat fM
  refine ⟨.tup [planD (turnN (t % 4).toNat p), planD (mirror p), planD (scale k4 p)], rfl, ⟨(show 3 ≤ 1000 by decide), fun d hd => ?_⟩, ?_⟩
  · simp only [List.mem_cons, List.not_mem_nil, or_false] at hd
    rcases hd with rfl | rfl | rfl
    · exact plain_plan 1 fT.fine.ok.few (by rw [← fT.fine.ok.len]; exact fT.fine.ok.few)
    · exact plain_plan 1 fM.fine.ok.few (by rw [← fM.fine.ok.len]; exact fM.fine.ok.few)
    · exact plain_plan 1 fS.ok.few (by rw [← fS.ok.len]; exact fS.ok.few)
  walk_at "dd"
  unfold t_law_3
  walk_at "dd"
  simp only [rIx_l ed, at0, at1, at2]
  refine ⟨p, 1, 0, 1, rfl, hb, ⟨by decide, by decide⟩, mirror p, 0, t, k4, by rw [mv_b], by rw [mir_len]; exact hb, ⟨by omega, by omega⟩, le_line (by decide), fun pm hpm => ?_⟩
  rw [mv_d]
  have tl6 := tl5.put (m := .lst [planD (turnN (t % 4).toNat p), planD (mirror p), planD (scale k4 p), planD (scale k4 (turnN (t % 4).toNat (mirror p)))]) (tl5.nea hpm) (tl5.nel hpm)
  have n1 := tl5.nea hpm
  have n2 := tl5.nel hpm
  have em : put μ5 pm (.lst [planD (turnN (t % 4).toNat p), planD (mirror p), planD (scale k4 p), planD (scale k4 (turnN (t % 4).toNat (mirror p)))]) pm = _ := put_same
  generalize put μ5 pm (.lst [planD (turnN (t % 4).toNat p), planD (mirror p), planD (scale k4 p), planD (scale k4 (turnN (t % 4).toNat (mirror p)))]) = μ6 at tl6 em
  refine ⟨a, l, 4, rfl, tl6, by decide, fun v5 μ7 tl7 kp7 x0 xl => ?_⟩
  refine ix4 (kp7.at em (by simp [n1, n2])) x0 (by omega) (fun d hd => ?_)
  obtain ⟨p', rfl, fp'⟩ : ∃ p', d = planD p' ∧ Fine p' := by
    rcases hd with e | e | e | e
    · exact ⟨_, e, fT.fine⟩
    · exact ⟨_, e, fM.fine⟩
    · exact ⟨_, e, fS⟩
    · exact ⟨_, e, fMT.scl hk1 hk2⟩
  unfold t_law_2
  walk_at "dd"
  have hML : (mirror p).boxes.length ≤ 40 := by rw [mir_len]; exact hb
  refine ⟨p, rfl, hb, mirror p, t, rfl, hML, _, k4, rfl, by rw [turnN_len]; exact hML, ⟨by omega, by omega⟩, p, 1, 0, 1, rfl, hb, ⟨by decide, by decide⟩, mirror p, 0, t, k4, by rw [mv_b], hML, ⟨by omega, by omega⟩, ?_⟩
  rw [mv_d]
  have fZ := fMT.scl hk1 hk2
  refine ⟨_, rfl, plain_plan 2 fZ.ok.few (by rw [← fZ.ok.len]; exact fZ.ok.few), ?_⟩
  walk_at "dd"
  unfold t_law_1
  walk_at "dd"
  exact ⟨a, l, p', true, rfl, tl7, fp', fun μ8 _ _ => k μ8⟩
end
theorem rd_law (ds : List D) (μ : Mu) (Q : DK) (h : S_law ds μ Q) : t_law (En Q) (dstart N_law ds) μ := by
  obtain ⟨ns, rfl, hn, q⟩ := h
  show t_law _ [some (.rol (ns.map .int)), none, none, none, none, none, none, none] μ
  unfold t_law
  walk_at "dd"
  refine ⟨ns, rfl, hn, fun a l μ1 tl1 _ => ?_⟩
  unfold t_law_10
  walk_at "dd"
  refine ⟨a, l, 5, rfl, tl1, by decide, fun v1 μ2 tl2 kp2 a0 a1 => ?_⟩
  walk_at "dd"
  refine ⟨a, l, 8, rfl, tl2, by decide, fun v2 μ3 tl3 kp3 b0 b1 => ?_⟩
  walk_at "dd"
  refine ⟨a, l, 27, rfl, tl3, by decide, fun v3 μ4 tl4 kp4 c0 c1 => ?_⟩
  walk_at "dd"
  refine ⟨le_line (by decide), a, l, 3, rfl, tl4, by decide, fun v4 μ5 tl5 kp5 d0 d1 => ?_⟩
  refine ix3 d0 (by omega) (fun d hd => ?_)
  obtain ⟨m, rfl, hm1, hm40⟩ : ∃ m : Int, d = .int m ∧ 1 ≤ m ∧ m ≤ 40 := by
    rcases hd with e | e | e
    · exact ⟨_, e, by omega, by omega⟩
    · exact ⟨_, e, by omega, by omega⟩
    · exact ⟨_, e, by omega, by omega⟩
  unfold t_law_9
  walk_at "dd"
  refine ⟨a, l, m, rfl, tl5, hm1, hm40, fun p μ6 tl6 kp6 fi hw hh => ?_⟩
  unfold t_law_8
  walk_at "dd"
  refine ⟨a, l, p, _, rfl, tl6, fi, fun μ7 tl7 kp7 => ?_⟩
  walk_at "dd"
  exact rd_law7 ⟨fi, hw, hh⟩ tl7 (fun μ8 => fgt_self (q μ8))
end K53
end
section
open PySem PySem.Spec PyProof.Rows L2
set_option Elab.async false
set_option linter.all false
set_option maxRecDepth 100000
namespace K53
open DD
def topS (i : Nat) : Stmt := PySem.Challenge.pw_wallsaswished_k53_whole_rims_and_areas.main.body.getD i (.Pass ⟨0, 0, 0, 0⟩)
abbrev lv_box_of : Nat := 2
abbrev lv_share_of : Nat := 2
abbrev lv_box_table : Nat := 1
abbrev lv_stretch_of : Nat := 1
abbrev lv_off_measure : Nat := 3
abbrev lv_measure_of : Nat := 4
abbrev lv_turned_plan : Nat := 1
abbrev lv_mirrored_plan : Nat := 1
abbrev lv_scaled_plan : Nat := 1
abbrev lv__law_tiler : Nat := 1
abbrev lv__law_tile : Nat := 1
abbrev lv__law_cut : Nat := 2
abbrev lv__law_boxes : Nat := 3
abbrev lv__law_plan : Nat := 4
abbrev lv__law_share : Nat := 1
abbrev lv__law_moved : Nat := 1
abbrev lv__law_same : Nat := 6
abbrev lv__law_told : Nat := 1
abbrev lv__law_summed : Nat := 7
abbrev lv_law : Nat := 8
structure Nms (mg : Str → Option Value) : Prop where
  n_abs : mg "abs" = none
  n_bool : mg "bool" = none
  n_dict : mg "dict" = none
  n_int : mg "int" = none
  n_isinstance : mg "isinstance" = none
  n_len : mg "len" = none
  n_max : mg "max" = none
  n_min : mg "min" = none
  n_range : mg "range" = none
  n_sorted : mg "sorted" = none
  n_str : mg "str" = none
  n_tuple : mg "tuple" = none
  n_zip : mg "zip" = none
theorem bt_abs : bootBuiltins "abs" = some (.builtin "abs") := by decide +kernel
theorem bt_bool : bootBuiltins "bool" = some (.type "bool") := by decide +kernel
theorem bt_dict : bootBuiltins "dict" = some (.type "dict") := by decide +kernel
theorem bt_int : bootBuiltins "int" = some (.type "int") := by decide +kernel
theorem bt_isinstance : bootBuiltins "isinstance" = some (.builtin "isinstance") := by decide +kernel
theorem bt_len : bootBuiltins "len" = some (.builtin "len") := by decide +kernel
theorem bt_max : bootBuiltins "max" = some (.builtin "max") := by decide +kernel
theorem bt_min : bootBuiltins "min" = some (.builtin "min") := by decide +kernel
theorem bt_sorted : bootBuiltins "sorted" = some (.builtin "sorted") := by decide +kernel
theorem bt_str : bootBuiltins "str" = some (.type "str") := by decide +kernel
theorem bt_tuple : bootBuiltins "tuple" = some (.type "tuple") := by decide +kernel
abbrev s_box_of : Stmt := topS 1
theorem sc_box_of : FnScope N_box_of ["plan", "room"] (defScope s_box_of) := ⟨rfl, rfl, rfl, by decide +kernel, rfl, by decide +kernel, by decide +kernel⟩
structure G_box_of (P : Program) (w : World) (K : PySem.W.Frag) (mg : Str → Option Value) (base : Heap) : Prop where
  box_table : Callee P w K mg base "box_table" lv_box_table ["plan"] S_box_table
theorem der_box_of {P : Program} {w : World} {K : PySem.W.Frag} {mg : Str → Option Value} {base : Heap} {f : Addr} (T : Nms mg) (G : G_box_of P w K mg base) (cdv : Value) (A : Around) (outer : List Env) (s : Shared) (H : Hp) (E : XK) (hr : Room 1 (A.deeper (envOfC "box_of" (defScope s_box_of) s.heap.objs.size f cdv))) :
    PSs (cxOf CX0 P w K mg base N_box_of "box_of" (defScope s_box_of) f cdv A outer s H E).nox (defBody s_box_of) (lS K t_box_of) := by
  have nd := (sc_box_of).nd
  exact (ds_one (ds_ret (d_ix od_ix (ix_any (hu_of hr)) (d_callN G.box_table hr (by decide) (by rfl) (d_cons (d_var 0) d_nil)) (d_var 1) (fun _ _ => rfl))))
abbrev s_share_of : Stmt := topS 2
theorem sc_share_of : FnScope N_share_of ["plan", "one", "other"] (defScope s_share_of) := ⟨rfl, rfl, rfl, by decide +kernel, rfl, by decide +kernel, by decide +kernel⟩
structure G_share_of (P : Program) (w : World) (K : PySem.W.Frag) (mg : Str → Option Value) (base : Heap) : Prop where
  box_table : Callee P w K mg base "box_table" lv_box_table ["plan"] S_box_table
  stretch_of : Callee P w K mg base "stretch_of" lv_stretch_of ["one", "other"] S_stretch_of
theorem der_share_of {P : Program} {w : World} {K : PySem.W.Frag} {mg : Str → Option Value} {base : Heap} {f : Addr} (T : Nms mg) (G : G_share_of P w K mg base) (cdv : Value) (A : Around) (outer : List Env) (s : Shared) (H : Hp) (E : XK) (hr : Room 1 (A.deeper (envOfC "share_of" (defScope s_share_of) s.heap.objs.size f cdv))) :
    PSs (cxOf CX0 P w K mg base N_share_of "share_of" (defScope s_share_of) f cdv A outer s H E).nox (defBody s_share_of) (lS K t_share_of) := by
  have nd := (sc_share_of).nd
  exact (ds_cons (ds_set 3 nd (d_callN G.box_table hr (by decide) (by rfl) (d_cons (d_var 0) d_nil)))
  (ds_one (ds_ret (d_callN G.stretch_of hr (by decide) (by rfl) (d_cons (d_ix od_ix (ix_any (hu_of hr)) (d_var 3) (d_var 1) (fun _ _ => rfl)) (d_cons (d_ix od_ix (ix_any (hu_of hr)) (d_var 3) (d_var 2) (fun _ _ => rfl)) d_nil))))))
abbrev s_box_table : Stmt := topS 3
theorem sc_box_table : FnScope N_box_table ["plan"] (defScope s_box_table) := ⟨rfl, rfl, rfl, by decide +kernel, rfl, by decide +kernel, by decide +kernel⟩
structure G_box_table (P : Program) (w : World) (K : PySem.W.Frag) (mg : Str → Option Value) (base : Heap) : Prop where
  none : True
theorem der_box_table {P : Program} {w : World} {K : PySem.W.Frag} {mg : Str → Option Value} {base : Heap} {f : Addr} (T : Nms mg) (G : G_box_table P w K mg base) (cdv : Value) (A : Around) (outer : List Env) (s : Shared) (H : Hp) (E : XK) (hr : Room 0 (A.deeper (envOfC "box_table" (defScope s_box_table) s.heap.objs.size f cdv))) :
    PSs (cxOf CX0 P w K mg base N_box_table "box_table" (defScope s_box_table) f cdv A outer s H E).nox (defBody s_box_table) (lS K t_box_table) := by
  have nd := (sc_box_table).nd
  exact (ds_one (ds_ret (d_dc (own := [("room", 1), ("box", 2)]) (tg := (.tp [1, 2])) [1, 2] rfl nd (di_zip (by rfl) T.n_zip (d_cons (d_ix od_ix (ix_any (hu_of hr)) (d_var 0) d_int (fun _ _ => rfl)) (d_cons (d_ix od_ix (ix_any (hu_of hr)) (d_var 0) d_int (fun _ _ => rfl)) d_nil))) (blkOk_by (N := N_box_table) (sc := defScope s_box_table) (by decide +kernel)) (fun _ _ _ _ _ => (pg_tup rfl (pgs_cons (pg_name (i := 1) nd rfl (by first | exact .inl rfl | exact .inr rfl)) (pgs_cons (pg_name (i := 2) nd rfl (by first | exact .inl rfl | exact .inr rfl)) pgs_nil)))) (fun _ _ _ _ _ => d_yes) (fun _ _ _ _ _ => (d_var 1)) (fun _ _ _ _ _ => (d_var 2)))))
abbrev s_stretch_of : Stmt := topS 4
theorem sc_stretch_of : FnScope N_stretch_of ["one", "other"] (defScope s_stretch_of) := ⟨rfl, rfl, rfl, by decide +kernel, rfl, by decide +kernel, by decide +kernel⟩
structure G_stretch_of (P : Program) (w : World) (K : PySem.W.Frag) (mg : Str → Option Value) (base : Heap) : Prop where
  none : True
theorem der_stretch_of {P : Program} {w : World} {K : PySem.W.Frag} {mg : Str → Option Value} {base : Heap} {f : Addr} (T : Nms mg) (G : G_stretch_of P w K mg base) (cdv : Value) (A : Around) (outer : List Env) (s : Shared) (H : Hp) (E : XK) (hr : Room 0 (A.deeper (envOfC "stretch_of" (defScope s_stretch_of) s.heap.objs.size f cdv))) :
    PSs (cxOf CX0 P w K mg base N_stretch_of "stretch_of" (defScope s_stretch_of) f cdv A outer s H E).nox (defBody s_stretch_of) (lS K t_stretch_of) := by
  have nd := (sc_stretch_of).nd
  exact (ds_cons (ds_set 2 nd (d_op od_sub op_sub (d_callB cd_min (call_minA rfl) (by rfl) T.n_min bt_min (d_cons (d_ix od_ix (ix_any (hu_of hr)) (d_var 0) d_int (fun _ _ => rfl)) (d_cons (d_ix od_ix (ix_any (hu_of hr)) (d_var 1) d_int (fun _ _ => rfl)) d_nil))) (d_callB cd_max (call_maxA rfl) (by rfl) T.n_max bt_max (d_cons (d_ix od_ix (ix_any (hu_of hr)) (d_var 0) d_int (fun _ _ => rfl)) (d_cons (d_ix od_ix (ix_any (hu_of hr)) (d_var 1) d_int (fun _ _ => rfl)) d_nil)))))
  (ds_cons (ds_set 3 nd (d_op od_sub op_sub (d_callB cd_min (call_minA rfl) (by rfl) T.n_min bt_min (d_cons (d_ix od_ix (ix_any (hu_of hr)) (d_var 0) d_int (fun _ _ => rfl)) (d_cons (d_ix od_ix (ix_any (hu_of hr)) (d_var 1) d_int (fun _ _ => rfl)) d_nil))) (d_callB cd_max (call_maxA rfl) (by rfl) T.n_max bt_max (d_cons (d_ix od_ix (ix_any (hu_of hr)) (d_var 0) d_int (fun _ _ => rfl)) (d_cons (d_ix od_ix (ix_any (hu_of hr)) (d_var 1) d_int (fun _ _ => rfl)) d_nil)))))
  (ds_cons (ds_if (PW.pt (d_orT (d_cmpT od_lt op_lt (d_var 2) d_int (nomark _)) (d_or1 (d_cmpT od_lt op_lt (d_var 3) d_int (nomark _))))) (ds_one (ds_ret d_int)) ds_nil)
  (ds_one (ds_ret (d_callB cd_max (call_maxA rfl) (by rfl) T.n_max bt_max (d_cons (d_var 2) (d_cons (d_var 3) d_nil))))))))
abbrev s_off_measure : Stmt := topS 6
theorem sc_off_measure : FnScope N_off_measure ["plan", "room", "side"] (defScope s_off_measure) := ⟨rfl, rfl, rfl, by decide +kernel, rfl, by decide +kernel, by decide +kernel⟩
structure G_off_measure (P : Program) (w : World) (K : PySem.W.Frag) (mg : Str → Option Value) (base : Heap) : Prop where
  box_of : Callee P w K mg base "box_of" lv_box_of ["plan", "room"] S_box_of
theorem der_off_measure {P : Program} {w : World} {K : PySem.W.Frag} {mg : Str → Option Value} {base : Heap} {f : Addr} (T : Nms mg) (G : G_off_measure P w K mg base) (cdv : Value) (A : Around) (outer : List Env) (s : Shared) (H : Hp) (E : XK) (hr : Room 2 (A.deeper (envOfC "off_measure" (defScope s_off_measure) s.heap.objs.size f cdv))) :
    PSs (cxOf CX0 P w K mg base N_off_measure "off_measure" (defScope s_off_measure) f cdv A outer s H E).nox (defBody s_off_measure) (lS K t_off_measure) := by
  have nd := (sc_off_measure).nd
  exact (ds_cons (ds_asg (tg := (.tp [3, 4, 5, 6])) (d_callN G.box_of hr (by decide) (by rfl) (d_cons (d_var 0) (d_cons (d_var 1) d_nil))) (pg_tup rfl (pgs_cons (pg_name (i := 3) nd rfl (by first | exact .inl rfl | exact .inr rfl)) (pgs_cons (pg_name (i := 4) nd rfl (by first | exact .inl rfl | exact .inr rfl)) (pgs_cons (pg_name (i := 5) nd rfl (by first | exact .inl rfl | exact .inr rfl)) (pgs_cons (pg_name (i := 6) nd rfl (by first | exact .inl rfl | exact .inr rfl)) pgs_nil))))))
  (ds_cons (ds_if (d_cmpT od_eq op_eq (d_var 2) d_str (nomark _)) (ds_one (ds_ret (d_op od_sub op_sub (d_ix od_ix (ix_any (hu_of hr)) (d_var 0) d_int (fun _ _ => rfl)) (d_var 5)))) ds_nil)
  (ds_cons (ds_if (d_cmpT od_eq op_eq (d_var 2) d_str (nomark _)) (ds_one (ds_ret (d_op od_sub op_sub (d_ix od_ix (ix_any (hu_of hr)) (d_var 0) d_int (fun _ _ => rfl)) (d_var 6)))) ds_nil)
  (ds_cons (ds_if (d_cmpT od_eq op_eq (d_var 2) d_str (nomark _)) (ds_one (ds_ret (d_var 3))) ds_nil)
  (ds_one (ds_ret (d_var 4)))))))
abbrev s_measure_of : Stmt := topS 7
theorem sc_measure_of : FnScope N_measure_of ["plan", "size"] (defScope s_measure_of) := ⟨rfl, rfl, rfl, by decide +kernel, rfl, by decide +kernel, by decide +kernel⟩
structure G_measure_of (P : Program) (w : World) (K : PySem.W.Frag) (mg : Str → Option Value) (base : Heap) : Prop where
  box_of : Callee P w K mg base "box_of" lv_box_of ["plan", "room"] S_box_of
  off_measure : Callee P w K mg base "off_measure" lv_off_measure ["plan", "room", "side"] S_off_measure
  share_of : Callee P w K mg base "share_of" lv_share_of ["plan", "one", "other"] S_share_of
theorem der_measure_of {P : Program} {w : World} {K : PySem.W.Frag} {mg : Str → Option Value} {base : Heap} {f : Addr} (T : Nms mg) (G : G_measure_of P w K mg base) (cdv : Value) (A : Around) (outer : List Env) (s : Shared) (H : Hp) (E : XK) (hr : Room 3 (A.deeper (envOfC "measure_of" (defScope s_measure_of) s.heap.objs.size f cdv))) :
    PSs (cxOf CX0 P w K mg base N_measure_of "measure_of" (defScope s_measure_of) f cdv A outer s H E).nox (defBody s_measure_of) (lS K t_measure_of) := by
  have nd := (sc_measure_of).nd
  exact (ds_cons (ds_set 2 nd (d_ix od_ix (ix_any (hu_of hr)) (d_var 1) d_int (fun _ _ => rfl)))
  (ds_cons (ds_if (d_cmpT od_eq op_eq (d_var 2) d_str (nomark _)) (ds_one (ds_ret (d_ifE (d_cmpT od_eq op_eq (d_ix od_ix (ix_any (hu_of hr)) (d_var 1) d_int (fun _ _ => rfl)) d_str (nomark _)) (d_ix od_ix (ix_any (hu_of hr)) (d_var 0) d_int (fun _ _ => rfl)) (d_ix od_ix (ix_any (hu_of hr)) (d_var 0) d_int (fun _ _ => rfl))))) ds_nil)
  (ds_cons (ds_if (d_cmpT od_eq op_eq (d_var 2) d_str (nomark _)) (ds_one (ds_ret (d_callN G.share_of hr (by decide) (by rfl) (d_cons (d_var 0) (d_cons (d_ix od_ix (ix_any (hu_of hr)) (d_var 1) d_int (fun _ _ => rfl)) (d_cons (d_ix od_ix (ix_any (hu_of hr)) (d_var 1) d_int (fun _ _ => rfl)) d_nil)))))) ds_nil)
  (ds_cons (ds_if (d_cmpT od_eq op_eq (d_var 2) d_str (nomark _)) (ds_one (ds_ret (d_callN G.off_measure hr (by decide) (by rfl) (d_cons (d_var 0) (d_cons (d_ix od_ix (ix_any (hu_of hr)) (d_var 1) d_int (fun _ _ => rfl)) (d_cons (d_ix od_ix (ix_any (hu_of hr)) (d_var 1) d_int (fun _ _ => rfl)) d_nil)))))) ds_nil)
  (ds_cons (ds_asg (tg := (.tp [3, 4, 5, 6])) (d_callN G.box_of hr (by decide) (by rfl) (d_cons (d_var 0) (d_cons (d_ix od_ix (ix_any (hu_of hr)) (d_var 1) d_int (fun _ _ => rfl)) d_nil))) (pg_tup rfl (pgs_cons (pg_name (i := 3) nd rfl (by first | exact .inl rfl | exact .inr rfl)) (pgs_cons (pg_name (i := 4) nd rfl (by first | exact .inl rfl | exact .inr rfl)) (pgs_cons (pg_name (i := 5) nd rfl (by first | exact .inl rfl | exact .inr rfl)) (pgs_cons (pg_name (i := 6) nd rfl (by first | exact .inl rfl | exact .inr rfl)) pgs_nil))))))
  (ds_one (ds_ret (d_ifE (d_cmpT od_eq op_eq (d_var 2) d_str (nomark _)) (d_op od_sub op_sub (d_var 5) (d_var 3)) (d_op od_sub op_sub (d_var 6) (d_var 4))))))))))
abbrev s_turned_plan : Stmt := topS 9
theorem sc_turned_plan : FnScope N_turned_plan ["plan", "n"] (defScope s_turned_plan) := ⟨rfl, rfl, rfl, by decide +kernel, rfl, by decide +kernel, by decide +kernel⟩
structure G_turned_plan (P : Program) (w : World) (K : PySem.W.Frag) (mg : Str → Option Value) (base : Heap) : Prop where
  none : True
theorem der_turned_plan {P : Program} {w : World} {K : PySem.W.Frag} {mg : Str → Option Value} {base : Heap} {f : Addr} (T : Nms mg) (G : G_turned_plan P w K mg base) (cdv : Value) (A : Around) (outer : List Env) (s : Shared) (H : Hp) (E : XK) (hr : Room 0 (A.deeper (envOfC "turned_plan" (defScope s_turned_plan) s.heap.objs.size f cdv))) :
    PSs (cxOf CX0 P w K mg base N_turned_plan "turned_plan" (defScope s_turned_plan) f cdv A outer s H E).nox (defBody s_turned_plan) (lS K t_turned_plan) := by
  have nd := (sc_turned_plan).nd
  exact (ds_cons (ds_asg (tg := (.tp [2, 3, 4, 5])) (d_var 0) (pg_tup rfl (pgs_cons (pg_name (i := 2) nd rfl (by first | exact .inl rfl | exact .inr rfl)) (pgs_cons (pg_name (i := 3) nd rfl (by first | exact .inl rfl | exact .inr rfl)) (pgs_cons (pg_name (i := 4) nd rfl (by first | exact .inl rfl | exact .inr rfl)) (pgs_cons (pg_name (i := 5) nd rfl (by first | exact .inl rfl | exact .inr rfl)) pgs_nil))))))
  (ds_cons (ds_for (tg := (.nm 6)) PassesOwn.never rfl (di_r1 (by rfl) T.n_range (d_cons (d_op od_mod op_mod (d_var 1) d_int) d_nil)) (pg_name (i := 6) nd rfl (by first | exact .inl rfl | exact .inr rfl)) (ds_cons (ds_set 5 nd (d_fgt (d_callTy cd_toTup call_tuple_of (by rfl) T.n_tuple bt_tuple (d_cons (d_lc (own := [("west", 7), ("south", 8), ("east", 9), ("north", 10)]) (tg := (.tp [7, 8, 9, 10])) [7, 8, 9, 10] rfl nd (di_seq (d_var 5)) (blkOk_by (N := N_turned_plan) (sc := defScope s_turned_plan) (by decide +kernel)) (fun _ _ _ _ _ => (pg_tup rfl (pgs_cons (pg_name (i := 7) nd rfl (by first | exact .inl rfl | exact .inr rfl)) (pgs_cons (pg_name (i := 8) nd rfl (by first | exact .inl rfl | exact .inr rfl)) (pgs_cons (pg_name (i := 9) nd rfl (by first | exact .inl rfl | exact .inr rfl)) (pgs_cons (pg_name (i := 10) nd rfl (by first | exact .inl rfl | exact .inr rfl)) pgs_nil)))))) (fun _ _ _ _ _ => d_yes) (fun _ _ _ _ _ => (d_tup (d_cons (d_op od_sub op_sub (d_var 4) (d_var 10)) (d_cons (d_var 7) (d_cons (d_op od_sub op_sub (d_var 4) (d_var 8)) (d_cons (d_var 9) d_nil))))))) d_nil))))
  (ds_one (ds_asg (tg := (.tp [3, 4])) (d_tup (d_cons (d_var 4) (d_cons (d_var 3) d_nil))) (pg_tup rfl (pgs_cons (pg_name (i := 3) nd rfl (by first | exact .inl rfl | exact .inr rfl)) (pgs_cons (pg_name (i := 4) nd rfl (by first | exact .inl rfl | exact .inr rfl)) pgs_nil)))))))
  (ds_one (ds_ret (d_tup (d_cons (d_var 2) (d_cons (d_var 3) (d_cons (d_var 4) (d_cons (d_var 5) d_nil)))))))))
abbrev s_mirrored_plan : Stmt := topS 10
theorem sc_mirrored_plan : FnScope N_mirrored_plan ["plan"] (defScope s_mirrored_plan) := ⟨rfl, rfl, rfl, by decide +kernel, rfl, by decide +kernel, by decide +kernel⟩
structure G_mirrored_plan (P : Program) (w : World) (K : PySem.W.Frag) (mg : Str → Option Value) (base : Heap) : Prop where
  none : True
theorem der_mirrored_plan {P : Program} {w : World} {K : PySem.W.Frag} {mg : Str → Option Value} {base : Heap} {f : Addr} (T : Nms mg) (G : G_mirrored_plan P w K mg base) (cdv : Value) (A : Around) (outer : List Env) (s : Shared) (H : Hp) (E : XK) (hr : Room 0 (A.deeper (envOfC "mirrored_plan" (defScope s_mirrored_plan) s.heap.objs.size f cdv))) :
    PSs (cxOf CX0 P w K mg base N_mirrored_plan "mirrored_plan" (defScope s_mirrored_plan) f cdv A outer s H E).nox (defBody s_mirrored_plan) (lS K t_mirrored_plan) := by
  have nd := (sc_mirrored_plan).nd
  exact (ds_cons (ds_asg (tg := (.tp [1, 2, 3, 4])) (d_var 0) (pg_tup rfl (pgs_cons (pg_name (i := 1) nd rfl (by first | exact .inl rfl | exact .inr rfl)) (pgs_cons (pg_name (i := 2) nd rfl (by first | exact .inl rfl | exact .inr rfl)) (pgs_cons (pg_name (i := 3) nd rfl (by first | exact .inl rfl | exact .inr rfl)) (pgs_cons (pg_name (i := 4) nd rfl (by first | exact .inl rfl | exact .inr rfl)) pgs_nil))))))
  (ds_cons (ds_setLc 5 (own := [("west", 6), ("south", 7), ("east", 8), ("north", 9)]) (tg := (.tp [6, 7, 8, 9])) [6, 7, 8, 9] rfl nd rfl rfl (sw_true rfl rfl rfl (by decide +kernel)) (di_seq (d_var 4)) (blkOk_by (N := N_mirrored_plan) (sc := defScope s_mirrored_plan) (by decide +kernel)) (fun _ _ _ _ _ => (pg_tup rfl (pgs_cons (pg_name (i := 6) nd rfl (by first | exact .inl rfl | exact .inr rfl)) (pgs_cons (pg_name (i := 7) nd rfl (by first | exact .inl rfl | exact .inr rfl)) (pgs_cons (pg_name (i := 8) nd rfl (by first | exact .inl rfl | exact .inr rfl)) (pgs_cons (pg_name (i := 9) nd rfl (by first | exact .inl rfl | exact .inr rfl)) pgs_nil)))))) (fun _ _ _ _ _ => d_yes) (fun _ _ _ _ _ => (d_tup (d_cons (d_op od_sub op_sub (d_var 2) (d_var 8)) (d_cons (d_var 7) (d_cons (d_op od_sub op_sub (d_var 2) (d_var 6)) (d_cons (d_var 9) d_nil)))))))
  (ds_one (ds_ret (d_tup (d_cons (d_var 1) (d_cons (d_var 2) (d_cons (d_var 3) (d_cons (d_callTy cd_toTup call_tuple_of (by rfl) T.n_tuple bt_tuple (d_cons (d_var 5) d_nil)) d_nil)))))))))
abbrev s_scaled_plan : Stmt := topS 11
theorem sc_scaled_plan : FnScope N_scaled_plan ["plan", "times"] (defScope s_scaled_plan) := ⟨rfl, rfl, rfl, by decide +kernel, rfl, by decide +kernel, by decide +kernel⟩
structure G_scaled_plan (P : Program) (w : World) (K : PySem.W.Frag) (mg : Str → Option Value) (base : Heap) : Prop where
  none : True
theorem der_scaled_plan {P : Program} {w : World} {K : PySem.W.Frag} {mg : Str → Option Value} {base : Heap} {f : Addr} (T : Nms mg) (G : G_scaled_plan P w K mg base) (cdv : Value) (A : Around) (outer : List Env) (s : Shared) (H : Hp) (E : XK) (hr : Room 0 (A.deeper (envOfC "scaled_plan" (defScope s_scaled_plan) s.heap.objs.size f cdv))) :
    PSs (cxOf CX0 P w K mg base N_scaled_plan "scaled_plan" (defScope s_scaled_plan) f cdv A outer s H E).nox (defBody s_scaled_plan) (lS K t_scaled_plan) := by
  have nd := (sc_scaled_plan).nd
  exact (ds_cons (ds_asg (tg := (.tp [2, 3, 4, 5])) (d_var 0) (pg_tup rfl (pgs_cons (pg_name (i := 2) nd rfl (by first | exact .inl rfl | exact .inr rfl)) (pgs_cons (pg_name (i := 3) nd rfl (by first | exact .inl rfl | exact .inr rfl)) (pgs_cons (pg_name (i := 4) nd rfl (by first | exact .inl rfl | exact .inr rfl)) (pgs_cons (pg_name (i := 5) nd rfl (by first | exact .inl rfl | exact .inr rfl)) pgs_nil))))))
  (ds_cons (ds_setLc 6 (own := [("box", 7)]) (tg := (.nm 7)) [7] rfl nd rfl rfl (sw_true rfl rfl rfl (by decide +kernel)) (di_seq (d_var 5)) (blkOk_by (N := N_scaled_plan) (sc := defScope s_scaled_plan) (by decide +kernel)) (fun _ _ _ _ _ => (pg_name (i := 7) nd rfl (by first | exact .inl rfl | exact .inr rfl))) (fun _ _ _ _ _ => d_yes) (fun _ _ _ _ _ => (d_fgt (d_callTy cd_toTup call_tuple_of (by rfl) T.n_tuple bt_tuple (d_cons (d_lc (own := [("number", 8)]) (tg := (.nm 8)) [8] rfl nd (di_seq (d_var 7)) (blkOk_by (by rfl)) (fun _ _ _ _ _ => (pg_name (i := 8) nd rfl (by first | exact .inl rfl | exact .inr rfl))) (fun _ _ _ _ _ => d_yes) (fun _ _ _ _ _ => (d_op od_mul op_mulA (d_var 1) (d_var 8)))) d_nil)))))
  (ds_one (ds_ret (d_tup (d_cons (d_var 2) (d_cons (d_op od_mul op_mulA (d_var 1) (d_var 3)) (d_cons (d_op od_mul op_mulA (d_var 1) (d_var 4)) (d_cons (d_callTy cd_toTup call_tuple_of (by rfl) T.n_tuple bt_tuple (d_cons (d_var 6) d_nil)) d_nil)))))))))
abbrev s__law_tiler : Stmt := topS 13
theorem sc__law_tiler : FnScope N__law_tiler ["script"] (defScope s__law_tiler) := ⟨rfl, rfl, rfl, by decide +kernel, rfl, by decide +kernel, by decide +kernel⟩
structure G__law_tiler (P : Program) (w : World) (K : PySem.W.Frag) (mg : Str → Option Value) (base : Heap) : Prop where
  none : True
theorem der__law_tiler {P : Program} {w : World} {K : PySem.W.Frag} {mg : Str → Option Value} {base : Heap} {f : Addr} (T : Nms mg) (G : G__law_tiler P w K mg base) (cdv : Value) (A : Around) (outer : List Env) (s : Shared) (H : Hp) (E : XK) (hr : Room 0 (A.deeper (envOfC "_law_tiler" (defScope s__law_tiler) s.heap.objs.size f cdv))) :
    PSs (cxOf CX0 P w K mg base N__law_tiler "_law_tiler" (defScope s__law_tiler) f cdv A outer s H E).nox (defBody s__law_tiler) (lS K t__law_tiler) := by
  have nd := (sc__law_tiler).nd
  exact (ds_cons (ds_set 1 nd d_int)
  (ds_cons (ds_for (tg := (.nm 2)) PassesOwn.never rfl (di_seq (d_slice sd_sl sl_any (d_var 0) d_noP (d_part d_int))) (pg_name (i := 2) nd rfl (by first | exact .inl rfl | exact .inr rfl)) (ds_one (ds_set 1 nd (d_op od_mod op_mod (d_callTy cd_toInt call_int1 (by rfl) T.n_int bt_int (d_cons (d_op od_add op_addA (d_op od_add op_addA (d_op od_add op_addA (d_op od_mul op_mulA (d_var 1) d_int) (d_op od_mod op_mod (d_callB cd_abs call_abs (by rfl) T.n_abs bt_abs (d_cons (d_callTy cd_toInt call_int1 (by rfl) T.n_int bt_int (d_cons (d_var 2) d_nil)) d_nil)) d_int)) (d_op od_mul op_mulA d_int (d_callTy cd_toInt call_int1 (by rfl) T.n_int bt_int (d_cons (d_cmp od_lt op_lt (d_callTy cd_toInt call_int1 (by rfl) T.n_int bt_int (d_cons (d_var 2) d_nil)) d_int (nomark _)) d_nil)))) d_int) d_nil)) d_int))))
  (ds_one (ds_ret (d_disp (prs := [((dC (.str "tiles")), (dRev (dLc (diSeq (dSl rSlD (dVar 0) dNoP (dPart (dC (.int 37))))) (.nm 2) (dTest (dOp rGtD (dCB rAbsD (dCons (dCB rToIntD (dCons (dVar 2) dNil)) dNil)) (dOp rPowD (dC (.int 10)) (dC (.int 16))))) (dOp rModD (dCB rAbsD (dCons (dCB rToIntD (dCons (dVar 2) dNil)) dNil)) (dOp rPowD (dOp rPowD (dC (.int 10)) (dC (.int 44))) (dC (.int 9)))) [2]))), ((dC (.str "grout")), (dVar 1)), ((dC (.str "row")), (dC (.int 0)))]) (d_pcons d_str (d_rev (d_lc (own := [("cell", 2)]) (tg := (.nm 2)) [2] rfl nd (di_seq (d_slice sd_sl sl_any (d_var 0) d_noP (d_part d_int))) (blkOk_by (N := N__law_tiler) (sc := defScope s__law_tiler) (by decide +kernel)) (fun _ _ _ _ _ => (pg_name (i := 2) nd rfl (by first | exact .inl rfl | exact .inr rfl))) (fun _ _ _ _ _ => (pts_one (d_cmpT od_gt op_gt (d_callB cd_abs call_abs (by rfl) T.n_abs bt_abs (d_cons (d_callTy cd_toInt call_int1 (by rfl) T.n_int bt_int (d_cons (d_var 2) d_nil)) d_nil)) (d_op od_pow op_powW d_int d_int) (nomark _)))) (fun _ _ _ _ _ => (d_op od_mod op_mod (d_callB cd_abs call_abs (by rfl) T.n_abs bt_abs (d_cons (d_callTy cd_toInt call_int1 (by rfl) T.n_int bt_int (d_cons (d_var 2) d_nil)) d_nil)) (d_op od_pow op_powW (d_op od_pow op_powW d_int d_int) d_int))))) (d_pcons d_str (d_var 1) (d_pcons d_str d_int d_pnil))) (by rfl) (by rfl) (fun z => by cases z) (by decide))))))
abbrev s__law_tile : Stmt := topS 14
theorem sc__law_tile : FnScope N__law_tile ["tiler", "many"] (defScope s__law_tile) := ⟨rfl, rfl, rfl, by decide +kernel, rfl, by decide +kernel, by decide +kernel⟩
structure G__law_tile (P : Program) (w : World) (K : PySem.W.Frag) (mg : Str → Option Value) (base : Heap) : Prop where
  none : True
theorem der__law_tile {P : Program} {w : World} {K : PySem.W.Frag} {mg : Str → Option Value} {base : Heap} {f : Addr} (T : Nms mg) (G : G__law_tile P w K mg base) (cdv : Value) (A : Around) (outer : List Env) (s : Shared) (H : Hp) (E : XK) (hr : Room 0 (A.deeper (envOfC "_law_tile" (defScope s__law_tile) s.heap.objs.size f cdv))) :
    PSs (cxOf CX0 P w K mg base N__law_tile "_law_tile" (defScope s__law_tile) f cdv A outer s H E).nox (defBody s__law_tile) (lS K t__law_tile) := by
  have nd := (sc__law_tile).nd
  exact (ds_cons (ds_put sd_any (set_any (hu_of hr)) (d_op od_add op_addA (d_ix od_ix (ix_any (hu_of hr)) (d_var 0) d_str (fun _ _ => rfl)) d_int) (d_var 0) d_str)
  (ds_cons (ds_if (d_cmpT od_lt op_lt (d_var 1) d_int (nomark _)) (ds_one (ds_ret d_int)) ds_nil)
  (ds_cons (ds_if (d_cmpT od_gt op_gt (d_callB cd_len call_lenA (by rfl) T.n_len bt_len (d_cons (d_ix od_ix (ix_any (hu_of hr)) (d_var 0) d_str (fun _ _ => rfl)) d_nil)) d_int (nomark _)) (ds_cons (ds_set 2 nd (d_callTy cd_toInt call_int1 (by rfl) T.n_int bt_int (d_cons (d_bm0 md_pop0 PySem.F.plainAttrs_list PySem.F.slot_list_pop PySem.F.type_list_pop mt_pop (d_ix od_ix (ix_any (hu_of hr)) (d_var 0) d_str (fun _ _ => rfl))) d_nil)))
  (ds_cons (ds_if (d_cmpT od_ge op_ge (d_var 2) (d_var 1) (nomark _)) (ds_one (ds_expr (d_bm md_app PySem.F.plainAttrs_list PySem.F.slot_list_append PySem.F.type_list_append mt_append (d_ix od_ix (ix_any (hu_of hr)) (d_var 0) d_str (fun _ _ => rfl)) (d_cons (d_op od_div op_fdivW (d_var 2) (d_var 1)) d_nil)))) ds_nil)
  (ds_one (ds_ret (d_op od_mod op_mod (d_var 2) (d_var 1)))))) ds_nil)
  (ds_cons (ds_put sd_any (set_any (hu_of hr)) (d_op od_mod op_mod (d_callTy cd_toInt call_int1 (by rfl) T.n_int bt_int (d_cons (d_op od_add op_addA (d_op od_add op_addA (d_op od_mul op_mulA (d_ix od_ix (ix_any (hu_of hr)) (d_var 0) d_str (fun _ _ => rfl)) d_int) (d_op od_mul op_mulA (d_ix od_ix (ix_any (hu_of hr)) (d_var 0) d_str (fun _ _ => rfl)) d_int)) d_int) d_nil)) d_int) (d_var 0) d_str)
  (ds_one (ds_ret (d_op od_mod op_mod (d_callTy cd_toInt call_int1 (by rfl) T.n_int bt_int (d_cons (d_op od_div op_fdivW (d_ix od_ix (ix_any (hu_of hr)) (d_var 0) d_str (fun _ _ => rfl)) d_int) d_nil)) (d_var 1))))))))
abbrev s__law_cut : Stmt := topS 15
theorem sc__law_cut : FnScope N__law_cut ["tiler", "low", "high", "taken"] (defScope s__law_cut) := ⟨rfl, rfl, rfl, by decide +kernel, rfl, by decide +kernel, by decide +kernel⟩
structure G__law_cut (P : Program) (w : World) (K : PySem.W.Frag) (mg : Str → Option Value) (base : Heap) : Prop where
  _law_tile : Callee P w K mg base "_law_tile" lv__law_tile ["tiler", "many"] S__law_tile
theorem der__law_cut {P : Program} {w : World} {K : PySem.W.Frag} {mg : Str → Option Value} {base : Heap} {f : Addr} (T : Nms mg) (G : G__law_cut P w K mg base) (cdv : Value) (A : Around) (outer : List Env) (s : Shared) (H : Hp) (E : XK) (hr : Room 1 (A.deeper (envOfC "_law_cut" (defScope s__law_cut) s.heap.objs.size f cdv))) :
    PSs (cxOf CX0 P w K mg base N__law_cut "_law_cut" (defScope s__law_cut) f cdv A outer s H E).nox (defBody s__law_cut) (lS K t__law_cut) := by
  have nd := (sc__law_cut).nd
  exact (ds_cons (ds_set 4 nd (d_op od_add op_addA (d_op od_add op_addA (d_var 1) (d_op od_div op_fdivW (d_op od_sub op_sub (d_var 2) (d_var 1)) d_int)) (d_callN G._law_tile hr (by decide) (by rfl) (d_cons (d_var 0) (d_cons (d_op od_div op_fdivW (d_op od_sub op_sub (d_var 2) (d_var 1)) d_int) d_nil)))))
  (ds_cons (ds_while PassesOwn.never (PW.pt (d_orT (d_cmpT od_inDict (op_inDict (hu_of hr)) (d_var 4) (d_var 3) (by rfl)) (d_or1 (d_notT (d_chainT od_lt op_lt od_lt op_lt (d_var 1) (d_var 4) (d_var 2)))))) (ds_one (ds_set 4 nd (d_ifE (d_chainT od_le op_le od_lt op_lt (d_var 1) (d_var 4) (d_op od_sub op_sub (d_var 2) d_int)) (d_op od_add op_addA (d_var 4) d_int) (d_op od_add op_addA (d_var 1) d_int)))))
  (ds_cons (ds_put sd_any (set_any (hu_of hr)) d_bl (d_var 3) (d_var 4))
  (ds_one (ds_ret (d_var 4))))))
abbrev s__law_boxes : Stmt := topS 16
theorem sc__law_boxes : FnScope N__law_boxes ["tiler", "many"] (defScope s__law_boxes) := ⟨rfl, rfl, rfl, by decide +kernel, rfl, by decide +kernel, by decide +kernel⟩
structure G__law_boxes (P : Program) (w : World) (K : PySem.W.Frag) (mg : Str → Option Value) (base : Heap) : Prop where
  _law_cut : Callee P w K mg base "_law_cut" lv__law_cut ["tiler", "low", "high", "taken"] S__law_cut
  _law_tile : Callee P w K mg base "_law_tile" lv__law_tile ["tiler", "many"] S__law_tile
theorem der__law_boxes {P : Program} {w : World} {K : PySem.W.Frag} {mg : Str → Option Value} {base : Heap} {f : Addr} (T : Nms mg) (G : G__law_boxes P w K mg base) (cdv : Value) (A : Around) (outer : List Env) (s : Shared) (H : Hp) (E : XK) (hr : Room 2 (A.deeper (envOfC "_law_boxes" (defScope s__law_boxes) s.heap.objs.size f cdv))) :
    PSs (cxOf CX0 P w K mg base N__law_boxes "_law_boxes" (defScope s__law_boxes) f cdv A outer s H E).nox (defBody s__law_boxes) (lS K t__law_boxes) := by
  have nd := (sc__law_boxes).nd
  exact (ds_cons (ds_set 2 nd (d_op od_shl op_shl d_int d_int))
  (ds_cons (ds_asg (tg := (.tp [3, 4])) (d_tup (d_cons (d_lst (d_cons (d_tup (d_cons d_int (d_cons d_int (d_cons (d_var 2) (d_cons (d_var 2) d_nil))))) d_nil)) (d_cons (d_tup (d_cons (d_disp (prs := [((dC (.int 0)), (dC (.bl true))), ((dVar 2), (dC (.bl true)))]) (d_pcons d_int d_bl (d_pcons (d_var 2) d_bl d_pnil)) (by rfl) (by rfl) (fun z => by cases z) (by decide)) (d_cons (d_disp (prs := [((dC (.int 0)), (dC (.bl true))), ((dVar 2), (dC (.bl true)))]) (d_pcons d_int d_bl (d_pcons (d_var 2) d_bl d_pnil)) (by rfl) (by rfl) (fun z => by cases z) (by decide)) d_nil))) d_nil))) (pg_tup rfl (pgs_cons (pg_name (i := 3) nd rfl (by first | exact .inl rfl | exact .inr rfl)) (pgs_cons (pg_name (i := 4) nd rfl (by first | exact .inl rfl | exact .inr rfl)) pgs_nil))))
  (ds_cons (ds_while PassesOwn.never (d_cmpT od_lt op_lt (d_callB cd_len call_lenA (by rfl) T.n_len bt_len (d_cons (d_var 3) d_nil)) (d_var 1) (nomark _)) (ds_cons (ds_setLc 5 (own := [("box", 7)]) (tg := (.nm 7)) [7] rfl nd rfl rfl (sw_true rfl rfl rfl (by decide +kernel)) (di_seq (d_var 3)) (blkOk_by (N := N__law_boxes) (sc := defScope s__law_boxes) (by decide +kernel)) (fun _ _ _ _ _ => (pg_name (i := 7) nd rfl (by first | exact .inl rfl | exact .inr rfl))) (fun _ _ _ _ _ => d_yes) (fun _ _ _ _ _ => (d_op od_sub op_sub (d_op od_add op_addA (d_op od_sub op_sub (d_ix od_ix (ix_any (hu_of hr)) (d_var 7) d_int (fun _ _ => rfl)) (d_ix od_ix (ix_any (hu_of hr)) (d_var 7) d_int (fun _ _ => rfl))) (d_ix od_ix (ix_any (hu_of hr)) (d_var 7) d_int (fun _ _ => rfl))) (d_ix od_ix (ix_any (hu_of hr)) (d_var 7) d_int (fun _ _ => rfl)))))
  (ds_cons (ds_set 6 nd (d_callN G._law_tile hr (by decide) (by rfl) (d_cons (d_var 0) (d_cons (d_op od_mul op_mulA d_int (d_callB cd_len call_lenA (by rfl) T.n_len bt_len (d_cons (d_var 3) d_nil))) d_nil))))
  (ds_cons (ds_set 7 nd (d_bm md_popI PySem.F.plainAttrs_list PySem.F.slot_list_pop PySem.F.type_list_pop mt_popAt (d_var 3) (d_cons (d_ifE (PW.pt (d_andT (d_cmpT od_lt op_lt (d_var 6) (d_callB cd_len call_lenA (by rfl) T.n_len bt_len (d_cons (d_var 3) d_nil)) (nomark _)) (d_and1 (d_cmpT od_gt op_gt (d_ix od_ix (ix_any (hu_of hr)) (d_var 5) (d_var 6) (fun _ _ => rfl)) d_int (nomark _))))) (d_var 6) (d_bm md_indexI PySem.F.plainAttrs_list PySem.F.slot_list_index PySem.F.type_list_index mt_index (d_var 5) (d_cons (d_callB cd_max (call_maxA rfl) (by rfl) T.n_max bt_max (d_cons (d_var 5) d_nil)) d_nil))) d_nil)))
  (ds_cons (ds_par (i := 8) (j := 9) rfl nd rfl rfl (by decide) rfl rfl (d_cons (d_op od_sub op_sub (d_ix od_ix (ix_any (hu_of hr)) (d_var 7) d_int (fun _ _ => rfl)) (d_ix od_ix (ix_any (hu_of hr)) (d_var 7) d_int (fun _ _ => rfl))) (d_cons (d_op od_sub op_sub (d_ix od_ix (ix_any (hu_of hr)) (d_var 7) d_int (fun _ _ => rfl)) (d_ix od_ix (ix_any (hu_of hr)) (d_var 7) d_int (fun _ _ => rfl))) d_nil)) (by rfl))
  (ds_cons (ds_set 10 nd (d_ifE (d_cmpT od_lt op_lt (d_callB cd_min (call_minA rfl) (by rfl) T.n_min bt_min (d_cons (d_var 8) (d_cons (d_var 9) d_nil))) d_int (nomark _)) (d_callTy cd_toInt call_int1 (by rfl) T.n_int bt_int (d_cons (d_cmp od_gt op_gt (d_var 9) (d_var 8) (nomark _)) d_nil)) (d_callN G._law_tile hr (by decide) (by rfl) (d_cons (d_var 0) (d_cons d_int d_nil)))))
  (ds_one (ds_if (PW.pt (d_andT (d_cmpT od_gt op_gt (d_op od_sub op_sub (d_var 1) (d_callB cd_len call_lenA (by rfl) T.n_len bt_len (d_cons (d_var 3) d_nil))) d_int (nomark _)) (d_andT (d_cmpT od_gt op_gt (d_callB cd_min (call_minA rfl) (by rfl) T.n_min bt_min (d_cons (d_var 8) (d_cons (d_var 9) d_nil))) d_int (nomark _)) (d_and1 (d_cmpT od_eq op_eq (d_callN G._law_tile hr (by decide) (by rfl) (d_cons (d_var 0) (d_cons d_int d_nil))) d_int (nomark _)))))) (ds_cons (ds_set 11 nd (d_callB cd_sorted (call_sortedA rfl) (by rfl) T.n_sorted bt_sorted (d_cons (d_lc (own := [("side", 14)]) (tg := (.nm 14)) [14] rfl nd (di_r1 (by rfl) T.n_range (d_cons d_int d_nil)) (blkOk_by (N := N__law_boxes) (sc := defScope s__law_boxes) (by decide +kernel)) (fun _ _ _ _ _ => (pg_name (i := 14) nd rfl (by first | exact .inl rfl | exact .inr rfl))) (fun _ _ _ _ _ => d_yes) (fun _ _ _ _ _ => (d_callN G._law_cut hr (by decide) (by rfl) (d_cons (d_var 0) (d_cons (d_ix od_ix (ix_any (hu_of hr)) (d_var 7) d_int (fun _ _ => rfl)) (d_cons (d_ix od_ix (ix_any (hu_of hr)) (d_var 7) d_int (fun _ _ => rfl)) (d_cons (d_ix od_ix (ix_any (hu_of hr)) (d_var 4) d_int (fun _ _ => rfl)) d_nil))))))) d_nil)))
  (ds_cons (ds_set 12 nd (d_callB cd_sorted (call_sortedA rfl) (by rfl) T.n_sorted bt_sorted (d_cons (d_lc (own := [("side", 14)]) (tg := (.nm 14)) [14] rfl nd (di_r1 (by rfl) T.n_range (d_cons d_int d_nil)) (blkOk_by (N := N__law_boxes) (sc := defScope s__law_boxes) (by decide +kernel)) (fun _ _ _ _ _ => (pg_name (i := 14) nd rfl (by first | exact .inl rfl | exact .inr rfl))) (fun _ _ _ _ _ => d_yes) (fun _ _ _ _ _ => (d_callN G._law_cut hr (by decide) (by rfl) (d_cons (d_var 0) (d_cons (d_ix od_ix (ix_any (hu_of hr)) (d_var 7) d_int (fun _ _ => rfl)) (d_cons (d_ix od_ix (ix_any (hu_of hr)) (d_var 7) d_int (fun _ _ => rfl)) (d_cons (d_ix od_ix (ix_any (hu_of hr)) (d_var 4) d_int (fun _ _ => rfl)) d_nil))))))) d_nil)))
  (ds_one (ds_set 3 nd (d_op od_add op_addA (d_var 3) (d_lst (d_cons (d_tup (d_cons (d_ix od_ix (ix_any (hu_of hr)) (d_var 7) d_int (fun _ _ => rfl)) (d_cons (d_ix od_ix (ix_any (hu_of hr)) (d_var 12) d_int (fun _ _ => rfl)) (d_cons (d_ix od_ix (ix_any (hu_of hr)) (d_var 11) d_int (fun _ _ => rfl)) (d_cons (d_ix od_ix (ix_any (hu_of hr)) (d_var 7) d_int (fun _ _ => rfl)) d_nil))))) (d_cons (d_tup (d_cons (d_ix od_ix (ix_any (hu_of hr)) (d_var 11) d_int (fun _ _ => rfl)) (d_cons (d_ix od_ix (ix_any (hu_of hr)) (d_var 12) d_int (fun _ _ => rfl)) (d_cons (d_ix od_ix (ix_any (hu_of hr)) (d_var 7) d_int (fun _ _ => rfl)) (d_cons (d_ix od_ix (ix_any (hu_of hr)) (d_var 7) d_int (fun _ _ => rfl)) d_nil))))) (d_cons (d_tup (d_cons (d_ix od_ix (ix_any (hu_of hr)) (d_var 11) d_int (fun _ _ => rfl)) (d_cons (d_ix od_ix (ix_any (hu_of hr)) (d_var 7) d_int (fun _ _ => rfl)) (d_cons (d_ix od_ix (ix_any (hu_of hr)) (d_var 7) d_int (fun _ _ => rfl)) (d_cons (d_ix od_ix (ix_any (hu_of hr)) (d_var 12) d_int (fun _ _ => rfl)) d_nil))))) (d_cons (d_tup (d_cons (d_ix od_ix (ix_any (hu_of hr)) (d_var 7) d_int (fun _ _ => rfl)) (d_cons (d_ix od_ix (ix_any (hu_of hr)) (d_var 7) d_int (fun _ _ => rfl)) (d_cons (d_ix od_ix (ix_any (hu_of hr)) (d_var 11) d_int (fun _ _ => rfl)) (d_cons (d_ix od_ix (ix_any (hu_of hr)) (d_var 12) d_int (fun _ _ => rfl)) d_nil))))) (d_cons (d_tup (d_cons (d_ix od_ix (ix_any (hu_of hr)) (d_var 11) d_int (fun _ _ => rfl)) (d_cons (d_ix od_ix (ix_any (hu_of hr)) (d_var 12) d_int (fun _ _ => rfl)) (d_cons (d_ix od_ix (ix_any (hu_of hr)) (d_var 11) d_int (fun _ _ => rfl)) (d_cons (d_ix od_ix (ix_any (hu_of hr)) (d_var 12) d_int (fun _ _ => rfl)) d_nil))))) d_nil))))))))))) (ds_cons (ds_set 13 nd (d_callN G._law_cut hr (by decide) (by rfl) (d_cons (d_var 0) (d_cons (d_ix od_ix (ix_any (hu_of hr)) (d_var 7) (d_var 10) (fun _ _ => rfl)) (d_cons (d_ix od_ix (ix_any (hu_of hr)) (d_var 7) (d_op od_add op_addA (d_var 10) d_int) (fun _ _ => rfl)) (d_cons (d_ix od_ix (ix_any (hu_of hr)) (d_var 4) (d_var 10) (fun _ _ => rfl)) d_nil))))))
  (ds_one (ds_set 3 nd (d_op od_add op_addA (d_var 3) (d_lst (d_cons (d_op od_add op_addA (d_op od_add op_addA (d_slice sd_sl sl_any (d_var 7) d_noP (d_part (d_op od_add op_addA (d_var 10) d_int))) (d_tup (d_cons (d_var 13) d_nil))) (d_slice sd_sl sl_any (d_var 7) (d_part (d_op od_add op_addA (d_var 10) d_int)) d_noP)) (d_cons (d_op od_add op_addA (d_op od_add op_addA (d_slice sd_sl sl_any (d_var 7) d_noP (d_part (d_var 10))) (d_tup (d_cons (d_var 13) d_nil))) (d_slice sd_sl sl_any (d_var 7) (d_part (d_op od_add op_addA (d_var 10) d_int)) d_noP)) d_nil)))))))))))))))
  (ds_one (ds_ret (d_var 3))))))
abbrev s__law_plan : Stmt := topS 17
theorem sc__law_plan : FnScope N__law_plan ["tiler", "many"] (defScope s__law_plan) := ⟨rfl, rfl, rfl, by decide +kernel, rfl, by decide +kernel, by decide +kernel⟩
structure G__law_plan (P : Program) (w : World) (K : PySem.W.Frag) (mg : Str → Option Value) (base : Heap) : Prop where
  _law_boxes : Callee P w K mg base "_law_boxes" lv__law_boxes ["tiler", "many"] S__law_boxes
  _law_tile : Callee P w K mg base "_law_tile" lv__law_tile ["tiler", "many"] S__law_tile
theorem der__law_plan {P : Program} {w : World} {K : PySem.W.Frag} {mg : Str → Option Value} {base : Heap} {f : Addr} (T : Nms mg) (G : G__law_plan P w K mg base) (cdv : Value) (A : Around) (outer : List Env) (s : Shared) (H : Hp) (E : XK) (hr : Room 3 (A.deeper (envOfC "_law_plan" (defScope s__law_plan) s.heap.objs.size f cdv))) :
    PSs (cxOf CX0 P w K mg base N__law_plan "_law_plan" (defScope s__law_plan) f cdv A outer s H E).nox (defBody s__law_plan) (lS K t__law_plan) := by
  have nd := (sc__law_plan).nd
  exact (ds_cons (ds_par3 (i := 2) (j := 3) (l := 4) rfl nd rfl rfl rfl (by decide) (by decide) (by decide) rfl rfl rfl (d_cons (d_callN G._law_boxes hr (by decide) (by rfl) (d_cons (d_var 0) (d_cons (d_var 1) d_nil))) (d_cons (d_lst d_nil) (d_cons (d_lst d_nil) d_nil))) (by rfl))
  (ds_cons (ds_set 5 nd (d_ix od_ix (ix_any (hu_of hr)) (d_tup (d_cons d_int (d_cons d_int (d_cons d_int (d_cons d_int d_nil))))) (d_callN G._law_tile hr (by decide) (by rfl) (d_cons (d_var 0) (d_cons d_int d_nil))) (fun _ _ => rfl)))
  (ds_cons (ds_for (tg := (.nm 6)) PassesOwn.never rfl (di_r1 (by rfl) T.n_range (d_cons d_int d_nil)) (pg_name (i := 6) nd rfl (by first | exact .inl rfl | exact .inr rfl)) (ds_cons (ds_par (i := 7) (j := 8) rfl nd rfl rfl (by decide) rfl rfl (d_cons d_newD (d_cons d_int d_nil)) (by rfl))
  (ds_cons (ds_for (tg := (.nm 9)) PassesOwn.never rfl (di_seq (d_callB cd_sorted (call_sortedA rfl) (by rfl) T.n_sorted bt_sorted (d_cons (d_callTy cd_toDict (call_dictP rfl) (by rfl) T.n_dict bt_dict (d_cons (d_op od_add op_addA (d_lc (own := [("box", 13)]) (tg := (.nm 13)) [13] rfl nd (di_seq (d_var 2)) (blkOk_by (N := N__law_plan) (sc := defScope s__law_plan) (by decide +kernel)) (fun _ _ _ _ _ => (pg_name (i := 13) nd rfl (by first | exact .inl rfl | exact .inr rfl))) (fun _ _ _ _ _ => d_yes) (fun _ _ _ _ _ => (d_tup (d_cons (d_ix od_ix (ix_any (hu_of hr)) (d_var 13) (d_var 6) (fun _ _ => rfl)) (d_cons d_bl d_nil))))) (d_lc (own := [("box", 13)]) (tg := (.nm 13)) [13] rfl nd (di_seq (d_var 2)) (blkOk_by (N := N__law_plan) (sc := defScope s__law_plan) (by decide +kernel)) (fun _ _ _ _ _ => (pg_name (i := 13) nd rfl (by first | exact .inl rfl | exact .inr rfl))) (fun _ _ _ _ _ => d_yes) (fun _ _ _ _ _ => (d_tup (d_cons (d_ix od_ix (ix_any (hu_of hr)) (d_var 13) (d_op od_add op_addA (d_var 6) d_int) (fun _ _ => rfl)) (d_cons d_bl d_nil)))))) d_nil)) d_nil))) (pg_name (i := 9) nd rfl (by first | exact .inl rfl | exact .inr rfl)) (ds_cons (ds_put sd_any (set_any (hu_of hr)) (d_var 8) (d_var 7) (d_var 9))
  (ds_one (ds_set 8 nd (d_op od_add op_addA (d_op od_add op_addA (d_var 8) d_int) (d_callN G._law_tile hr (by decide) (by rfl) (d_cons (d_var 0) (d_cons (d_var 5) d_nil))))))))
  (ds_one (ds_expr (d_bm md_app PySem.F.plainAttrs_list PySem.F.slot_list_append PySem.F.type_list_append mt_append (d_var 4) (d_cons (d_var 7) d_nil)))))))
  (ds_cons (ds_for (tg := (.nm 10)) PassesOwn.never rfl (di_r1 (by rfl) T.n_range (d_cons (d_var 1) d_nil)) (pg_name (i := 10) nd rfl (by first | exact .inl rfl | exact .inr rfl)) (ds_one (ds_expr (d_bm md_app PySem.F.plainAttrs_list PySem.F.slot_list_append PySem.F.type_list_append mt_append (d_var 3) (d_cons (d_op od_add op_addA (d_op od_add op_addA (d_ix od_ix (ix_any (hu_of hr)) d_str (d_callN G._law_tile hr (by decide) (by rfl) (d_cons (d_var 0) (d_cons d_int d_nil))) (fun _ _ => rfl)) (d_ix od_ix (ix_any (hu_of hr)) (d_tup (d_cons d_str (d_cons d_str (d_cons d_str d_nil)))) (d_callN G._law_tile hr (by decide) (by rfl) (d_cons (d_var 0) (d_cons d_int d_nil))) (fun _ _ => rfl))) (d_callTy cd_toStr call_str_int (by rfl) T.n_str bt_str (d_cons (d_var 10) d_nil))) d_nil)))))
  (ds_cons (ds_set 11 nd (d_lst d_nil))
  (ds_cons (ds_for (tg := (.nm 12)) PassesOwn.never rfl (di_seq (d_var 3)) (pg_name (i := 12) nd rfl (by first | exact .inl rfl | exact .inr rfl)) (ds_cons (ds_set 13 nd (d_bm md_popI PySem.F.plainAttrs_list PySem.F.slot_list_pop PySem.F.type_list_pop mt_popAt (d_var 2) (d_cons (d_callN G._law_tile hr (by decide) (by rfl) (d_cons (d_var 0) (d_cons (d_callB cd_len call_lenA (by rfl) T.n_len bt_len (d_cons (d_var 2) d_nil)) d_nil))) d_nil)))
  (ds_one (ds_expr (d_bm md_app PySem.F.plainAttrs_list PySem.F.slot_list_append PySem.F.type_list_append mt_append (d_var 11) (d_cons (d_tup (d_cons (d_ix od_ix (ix_any (hu_of hr)) (d_ix od_ix (ix_any (hu_of hr)) (d_var 4) d_int (fun _ _ => rfl)) (d_ix od_ix (ix_any (hu_of hr)) (d_var 13) d_int (fun _ _ => rfl)) (fun _ _ => rfl)) (d_cons (d_ix od_ix (ix_any (hu_of hr)) (d_ix od_ix (ix_any (hu_of hr)) (d_var 4) d_int (fun _ _ => rfl)) (d_ix od_ix (ix_any (hu_of hr)) (d_var 13) d_int (fun _ _ => rfl)) (fun _ _ => rfl)) (d_cons (d_ix od_ix (ix_any (hu_of hr)) (d_ix od_ix (ix_any (hu_of hr)) (d_var 4) d_int (fun _ _ => rfl)) (d_ix od_ix (ix_any (hu_of hr)) (d_var 13) d_int (fun _ _ => rfl)) (fun _ _ => rfl)) (d_cons (d_ix od_ix (ix_any (hu_of hr)) (d_ix od_ix (ix_any (hu_of hr)) (d_var 4) d_int (fun _ _ => rfl)) (d_ix od_ix (ix_any (hu_of hr)) (d_var 13) d_int (fun _ _ => rfl)) (fun _ _ => rfl)) d_nil))))) d_nil))))))
  (ds_one (ds_ret (d_tup (d_cons (d_fgt (d_callTy cd_toTup call_tuple_of (by rfl) T.n_tuple bt_tuple (d_cons (d_callB cd_sorted (call_sortedA rfl) (by rfl) T.n_sorted bt_sorted (d_cons (d_var 3) d_nil)) d_nil))) (d_cons (d_maxVals rfl (by rfl) T.n_max (d_ix od_ix (ix_any (hu_of hr)) (d_var 4) d_int (fun _ _ => rfl))) (d_cons (d_maxVals rfl (by rfl) T.n_max (d_ix od_ix (ix_any (hu_of hr)) (d_var 4) d_int (fun _ _ => rfl))) (d_cons (d_callTy cd_toTup call_tuple_of (by rfl) T.n_tuple bt_tuple (d_cons (d_var 11) d_nil)) d_nil)))))))))))))
abbrev s__law_share : Stmt := topS 18
theorem sc__law_share : FnScope N__law_share ["one", "other"] (defScope s__law_share) := ⟨rfl, rfl, rfl, by decide +kernel, rfl, by decide +kernel, by decide +kernel⟩
structure G__law_share (P : Program) (w : World) (K : PySem.W.Frag) (mg : Str → Option Value) (base : Heap) : Prop where
  none : True
theorem der__law_share {P : Program} {w : World} {K : PySem.W.Frag} {mg : Str → Option Value} {base : Heap} {f : Addr} (T : Nms mg) (G : G__law_share P w K mg base) (cdv : Value) (A : Around) (outer : List Env) (s : Shared) (H : Hp) (E : XK) (hr : Room 0 (A.deeper (envOfC "_law_share" (defScope s__law_share) s.heap.objs.size f cdv))) :
    PSs (cxOf CX0 P w K mg base N__law_share "_law_share" (defScope s__law_share) f cdv A outer s H E).nox (defBody s__law_share) (lS K t__law_share) := by
  have nd := (sc__law_share).nd
  exact (ds_cons (ds_set 2 nd (d_op od_sub op_sub (d_callB cd_min (call_minA rfl) (by rfl) T.n_min bt_min (d_cons (d_ix od_ix (ix_any (hu_of hr)) (d_var 0) d_int (fun _ _ => rfl)) (d_cons (d_ix od_ix (ix_any (hu_of hr)) (d_var 1) d_int (fun _ _ => rfl)) d_nil))) (d_callB cd_max (call_maxA rfl) (by rfl) T.n_max bt_max (d_cons (d_ix od_ix (ix_any (hu_of hr)) (d_var 0) d_int (fun _ _ => rfl)) (d_cons (d_ix od_ix (ix_any (hu_of hr)) (d_var 1) d_int (fun _ _ => rfl)) d_nil)))))
  (ds_cons (ds_set 3 nd (d_op od_sub op_sub (d_callB cd_min (call_minA rfl) (by rfl) T.n_min bt_min (d_cons (d_ix od_ix (ix_any (hu_of hr)) (d_var 0) d_int (fun _ _ => rfl)) (d_cons (d_ix od_ix (ix_any (hu_of hr)) (d_var 1) d_int (fun _ _ => rfl)) d_nil))) (d_callB cd_max (call_maxA rfl) (by rfl) T.n_max bt_max (d_cons (d_ix od_ix (ix_any (hu_of hr)) (d_var 0) d_int (fun _ _ => rfl)) (d_cons (d_ix od_ix (ix_any (hu_of hr)) (d_var 1) d_int (fun _ _ => rfl)) d_nil)))))
  (ds_one (ds_ret (d_ifE (d_cmpT od_eq op_eq (d_callB cd_min (call_minA rfl) (by rfl) T.n_min bt_min (d_cons (d_var 2) (d_cons (d_var 3) d_nil))) d_int (nomark _)) (d_callB cd_max (call_maxA rfl) (by rfl) T.n_max bt_max (d_cons d_int (d_cons (d_callB cd_max (call_maxA rfl) (by rfl) T.n_max bt_max (d_cons (d_var 2) (d_cons (d_var 3) d_nil))) d_nil))) d_int)))))
abbrev s__law_moved : Stmt := topS 19
theorem sc__law_moved : FnScope N__law_moved ["plan", "mirrored", "quarters", "times"] (defScope s__law_moved) := ⟨rfl, rfl, rfl, by decide +kernel, rfl, by decide +kernel, by decide +kernel⟩
structure G__law_moved (P : Program) (w : World) (K : PySem.W.Frag) (mg : Str → Option Value) (base : Heap) : Prop where
  none : True
theorem der__law_moved {P : Program} {w : World} {K : PySem.W.Frag} {mg : Str → Option Value} {base : Heap} {f : Addr} (T : Nms mg) (G : G__law_moved P w K mg base) (cdv : Value) (A : Around) (outer : List Env) (s : Shared) (H : Hp) (E : XK) (hr : Room 0 (A.deeper (envOfC "_law_moved" (defScope s__law_moved) s.heap.objs.size f cdv))) :
    PSs (cxOf CX0 P w K mg base N__law_moved "_law_moved" (defScope s__law_moved) f cdv A outer s H E).nox (defBody s__law_moved) (lS K t__law_moved) := by
  have nd := (sc__law_moved).nd
  exact (ds_cons (ds_asg (tg := (.tp [4, 5, 6, 7])) (d_var 0) (pg_tup rfl (pgs_cons (pg_name (i := 4) nd rfl (by first | exact .inl rfl | exact .inr rfl)) (pgs_cons (pg_name (i := 5) nd rfl (by first | exact .inl rfl | exact .inr rfl)) (pgs_cons (pg_name (i := 6) nd rfl (by first | exact .inl rfl | exact .inr rfl)) (pgs_cons (pg_name (i := 7) nd rfl (by first | exact .inl rfl | exact .inr rfl)) pgs_nil))))))
  (ds_cons (ds_if (d_cmpT od_eq op_eq (d_var 1) d_int (nomark _)) (ds_one (ds_set 7 nd (d_fgt (d_callTy cd_toTup call_tuple_of (by rfl) T.n_tuple bt_tuple (d_cons (d_lc (own := [("west", 9), ("south", 10), ("east", 11), ("north", 12)]) (tg := (.tp [9, 10, 11, 12])) [9, 10, 11, 12] rfl nd (di_seq (d_var 7)) (blkOk_by (N := N__law_moved) (sc := defScope s__law_moved) (by decide +kernel)) (fun _ _ _ _ _ => (pg_tup rfl (pgs_cons (pg_name (i := 9) nd rfl (by first | exact .inl rfl | exact .inr rfl)) (pgs_cons (pg_name (i := 10) nd rfl (by first | exact .inl rfl | exact .inr rfl)) (pgs_cons (pg_name (i := 11) nd rfl (by first | exact .inl rfl | exact .inr rfl)) (pgs_cons (pg_name (i := 12) nd rfl (by first | exact .inl rfl | exact .inr rfl)) pgs_nil)))))) (fun _ _ _ _ _ => d_yes) (fun _ _ _ _ _ => (d_tup (d_cons (d_op od_sub op_sub (d_var 5) (d_var 11)) (d_cons (d_var 10) (d_cons (d_op od_sub op_sub (d_var 5) (d_var 9)) (d_cons (d_var 12) d_nil))))))) d_nil))))) ds_nil)
  (ds_cons (ds_for (tg := (.nm 8)) PassesOwn.never rfl (di_r1 (by rfl) T.n_range (d_cons (d_op od_mod op_mod (d_callTy cd_toInt call_int1 (by rfl) T.n_int bt_int (d_cons (d_var 2) d_nil)) d_int) d_nil)) (pg_name (i := 8) nd rfl (by first | exact .inl rfl | exact .inr rfl)) (ds_cons (ds_set 7 nd (d_fgt (d_callTy cd_toTup call_tuple_of (by rfl) T.n_tuple bt_tuple (d_cons (d_lc (own := [("west", 9), ("south", 10), ("east", 11), ("north", 12)]) (tg := (.tp [9, 10, 11, 12])) [9, 10, 11, 12] rfl nd (di_seq (d_var 7)) (blkOk_by (N := N__law_moved) (sc := defScope s__law_moved) (by decide +kernel)) (fun _ _ _ _ _ => (pg_tup rfl (pgs_cons (pg_name (i := 9) nd rfl (by first | exact .inl rfl | exact .inr rfl)) (pgs_cons (pg_name (i := 10) nd rfl (by first | exact .inl rfl | exact .inr rfl)) (pgs_cons (pg_name (i := 11) nd rfl (by first | exact .inl rfl | exact .inr rfl)) (pgs_cons (pg_name (i := 12) nd rfl (by first | exact .inl rfl | exact .inr rfl)) pgs_nil)))))) (fun _ _ _ _ _ => d_yes) (fun _ _ _ _ _ => (d_tup (d_cons (d_op od_sub op_sub (d_var 6) (d_var 12)) (d_cons (d_var 9) (d_cons (d_op od_sub op_sub (d_var 6) (d_var 10)) (d_cons (d_var 11) d_nil))))))) d_nil))))
  (ds_one (ds_asg (tg := (.tp [5, 6])) (d_tup (d_cons (d_var 6) (d_cons (d_var 5) d_nil))) (pg_tup rfl (pgs_cons (pg_name (i := 5) nd rfl (by first | exact .inl rfl | exact .inr rfl)) (pgs_cons (pg_name (i := 6) nd rfl (by first | exact .inl rfl | exact .inr rfl)) pgs_nil)))))))
  (ds_one (ds_ret (d_tup (d_cons (d_var 4) (d_cons (d_op od_mul op_mulA (d_var 5) (d_var 3)) (d_cons (d_op od_mul op_mulA (d_var 6) (d_var 3)) (d_cons (d_fgt (d_callTy cd_toTup call_tuple_of (by rfl) T.n_tuple bt_tuple (d_cons (d_lc (own := [("box", 13)]) (tg := (.nm 13)) [13] rfl nd (di_seq (d_var 7)) (blkOk_by (N := N__law_moved) (sc := defScope s__law_moved) (by decide +kernel)) (fun _ _ _ _ _ => (pg_name (i := 13) nd rfl (by first | exact .inl rfl | exact .inr rfl))) (fun _ _ _ _ _ => d_yes) (fun _ _ _ _ _ => (d_fgt (d_callTy cd_toTup call_tuple_of (by rfl) T.n_tuple bt_tuple (d_cons (d_lc (own := [("part", 14)]) (tg := (.nm 14)) [14] rfl nd (di_seq (d_var 13)) (blkOk_by (by rfl)) (fun _ _ _ _ _ => (pg_name (i := 14) nd rfl (by first | exact .inl rfl | exact .inr rfl))) (fun _ _ _ _ _ => d_yes) (fun _ _ _ _ _ => (d_op od_mul op_mulA (d_var 14) (d_var 3)))) d_nil))))) d_nil))) d_nil))))))))))
abbrev s__law_same : Stmt := topS 20
theorem sc__law_same : FnScope N__law_same ["told", "due"] (defScope s__law_same) := ⟨rfl, rfl, rfl, by decide +kernel, rfl, by decide +kernel, by decide +kernel⟩
structure G__law_same (P : Program) (w : World) (K : PySem.W.Frag) (mg : Str → Option Value) (base : Heap) (k : Nat) (S__law_same : SpD) : Prop where
  _law_same : Callee P w K mg base "_law_same" k ["told", "due"] S__law_same
theorem der__law_same {P : Program} {w : World} {K : PySem.W.Frag} {mg : Str → Option Value} {base : Heap} {f : Addr} {k : Nat} {S__law_same : SpD} (T : Nms mg) (G : G__law_same P w K mg base k S__law_same) (cdv : Value) (A : Around) (outer : List Env) (s : Shared) (H : Hp) (E : XK) (hr : Room k (A.deeper (envOfC "_law_same" (defScope s__law_same) s.heap.objs.size f cdv))) :
    PSs (cxOf CX0 P w K mg base N__law_same "_law_same" (defScope s__law_same) f cdv A outer s H E).nox (defBody s__law_same) (lS K (t__law_same S__law_same)) := by
  have nd := (sc__law_same).nd
  exact (ds_cons (ds_if (d_val (d_callB cd_isi call_isi (by rfl) T.n_isinstance bt_isinstance (d_cons (d_var 1) (d_cons (d_ty (by rfl) T.n_tuple bt_tuple) d_nil)))) (ds_one (ds_ret (d_and (d_callB cd_isi call_isi (by rfl) T.n_isinstance bt_isinstance (d_cons (d_var 0) (d_cons (d_ty (by rfl) T.n_tuple bt_tuple) d_nil))) (d_and (d_cmp od_eq op_eq (d_callB cd_len call_lenA (by rfl) T.n_len bt_len (d_cons (d_var 0) d_nil)) (d_callB cd_len call_lenA (by rfl) T.n_len bt_len (d_cons (d_var 1) d_nil)) (nomark _)) (d_one (d_cmp od_eq op_eq (d_fgt (d_callB cd_len call_lenA (by rfl) T.n_len bt_len (d_cons (d_lc (own := [("at", 2)]) (tg := (.nm 2)) [2] rfl nd (di_r1 (by rfl) T.n_range (d_cons (d_callB cd_len call_lenA (by rfl) T.n_len bt_len (d_cons (d_var 1) d_nil)) d_nil)) (blkOk_by (N := N__law_same) (sc := defScope s__law_same) (by decide +kernel)) (fun _ _ _ _ _ => (pg_name (i := 2) nd rfl (by first | exact .inl rfl | exact .inr rfl))) (fun _ _ _ _ _ => (pts_one (d_notT (d_val (d_callN G._law_same hr (Nat.le_refl _) (by rfl) (d_cons (d_ix od_ix (ix_any (hu_of hr)) (d_var 0) (d_var 2) (fun _ _ => rfl)) (d_cons (d_ix od_ix (ix_any (hu_of hr)) (d_var 1) (d_var 2) (fun _ _ => rfl)) d_nil))))))) (fun _ _ _ _ _ => d_int)) d_nil))) d_int (nomark _))))))) ds_nil)
  (ds_cons (ds_if (d_val (d_callB cd_isi call_isi (by rfl) T.n_isinstance bt_isinstance (d_cons (d_var 1) (d_cons (d_ty (by rfl) T.n_str bt_str) d_nil)))) (ds_one (ds_ret (d_and (d_callB cd_isi call_isi (by rfl) T.n_isinstance bt_isinstance (d_cons (d_var 0) (d_cons (d_ty (by rfl) T.n_str bt_str) d_nil))) (d_one (d_cmp od_eq op_eq (d_var 0) (d_var 1) (nomark _)))))) ds_nil)
  (ds_one (ds_ret (d_and (d_callB cd_isi call_isi (by rfl) T.n_isinstance bt_isinstance (d_cons (d_var 0) (d_cons (d_ty (by rfl) T.n_int bt_int) d_nil))) (d_and (d_not (d_callB cd_isi call_isi (by rfl) T.n_isinstance bt_isinstance (d_cons (d_var 0) (d_cons (d_ty (by rfl) T.n_bool bt_bool) d_nil)))) (d_one (d_cmp od_eq op_eq (d_var 0) (d_var 1) (nomark _)))))))))
abbrev s__law_told : Stmt := topS 21
theorem sc__law_told : FnScope N__law_told ["number", "due"] (defScope s__law_told) := ⟨rfl, rfl, rfl, by decide +kernel, rfl, by decide +kernel, by decide +kernel⟩
structure G__law_told (P : Program) (w : World) (K : PySem.W.Frag) (mg : Str → Option Value) (base : Heap) : Prop where
  none : True
theorem der__law_told {P : Program} {w : World} {K : PySem.W.Frag} {mg : Str → Option Value} {base : Heap} {f : Addr} (T : Nms mg) (G : G__law_told P w K mg base) (cdv : Value) (A : Around) (outer : List Env) (s : Shared) (H : Hp) (E : XK) (hr : Room 0 (A.deeper (envOfC "_law_told" (defScope s__law_told) s.heap.objs.size f cdv))) :
    PSs (cxOf CX0 P w K mg base N__law_told "_law_told" (defScope s__law_told) f cdv A outer s H E).nox (defBody s__law_told) (lS K t__law_told) := by
  have nd := (sc__law_told).nd
  exact (ds_one (ds_ret (d_and (d_callB cd_isi call_isi (by rfl) T.n_isinstance bt_isinstance (d_cons (d_var 0) (d_cons (d_ty (by rfl) T.n_int bt_int) d_nil))) (d_and (d_not (d_callB cd_isi call_isi (by rfl) T.n_isinstance bt_isinstance (d_cons (d_var 0) (d_cons (d_ty (by rfl) T.n_bool bt_bool) d_nil)))) (d_one (d_cmp od_eq op_eq (d_var 0) (d_var 1) (nomark _)))))))
abbrev s__law_summed : Stmt := topS 22
theorem sc__law_summed : FnScope N__law_summed ["tiler", "plan", "few"] (defScope s__law_summed) := ⟨rfl, rfl, rfl, by decide +kernel, rfl, by decide +kernel, by decide +kernel⟩
structure G__law_summed (P : Program) (w : World) (K : PySem.W.Frag) (mg : Str → Option Value) (base : Heap) : Prop where
  _law_same : Callee P w K mg base "_law_same" lv__law_same ["told", "due"] S__law_same
  _law_share : Callee P w K mg base "_law_share" lv__law_share ["one", "other"] S__law_share
  _law_tile : Callee P w K mg base "_law_tile" lv__law_tile ["tiler", "many"] S__law_tile
  _law_told : Callee P w K mg base "_law_told" lv__law_told ["number", "due"] S__law_told
  box_of : Callee P w K mg base "box_of" lv_box_of ["plan", "room"] S_box_of
  measure_of : Callee P w K mg base "measure_of" lv_measure_of ["plan", "size"] S_measure_of
  share_of : Callee P w K mg base "share_of" lv_share_of ["plan", "one", "other"] S_share_of
theorem der__law_summed {P : Program} {w : World} {K : PySem.W.Frag} {mg : Str → Option Value} {base : Heap} {f : Addr} (T : Nms mg) (G : G__law_summed P w K mg base) (cdv : Value) (A : Around) (outer : List Env) (s : Shared) (H : Hp) (E : XK) (hr : Room 6 (A.deeper (envOfC "_law_summed" (defScope s__law_summed) s.heap.objs.size f cdv))) :
    PSs (cxOf CX0 P w K mg base N__law_summed "_law_summed" (defScope s__law_summed) f cdv A outer s H E).nox (defBody s__law_summed) (lS K t__law_summed) := by
  have nd := (sc__law_summed).nd
  exact (ds_cons (ds_asg (tg := (.tp [3, 4, 5, 6])) (d_var 1) (pg_tup rfl (pgs_cons (pg_name (i := 3) nd rfl (by first | exact .inl rfl | exact .inr rfl)) (pgs_cons (pg_name (i := 4) nd rfl (by first | exact .inl rfl | exact .inr rfl)) (pgs_cons (pg_name (i := 5) nd rfl (by first | exact .inl rfl | exact .inr rfl)) (pgs_cons (pg_name (i := 6) nd rfl (by first | exact .inl rfl | exact .inr rfl)) pgs_nil))))))
  (ds_cons (ds_asg (tg := (.tp [7, 8])) (d_tup (d_cons d_int (d_cons d_int d_nil))) (pg_tup rfl (pgs_cons (pg_name (i := 7) nd rfl (by first | exact .inl rfl | exact .inr rfl)) (pgs_cons (pg_name (i := 8) nd rfl (by first | exact .inl rfl | exact .inr rfl)) pgs_nil))))
  (ds_cons (ds_for (tg := (.nm 9)) PassesOwn.never rfl (di_r1 (by rfl) T.n_range (d_cons (d_callB cd_len call_lenA (by rfl) T.n_len bt_len (d_cons (d_var 3) d_nil)) d_nil)) (pg_name (i := 9) nd rfl (by first | exact .inl rfl | exact .inr rfl)) (ds_cons (ds_asg (tg := (.tp [10, 11, 12, 13])) (d_ix od_ix (ix_any (hu_of hr)) (d_var 6) (d_var 9) (fun _ _ => rfl)) (pg_tup rfl (pgs_cons (pg_name (i := 10) nd rfl (by first | exact .inl rfl | exact .inr rfl)) (pgs_cons (pg_name (i := 11) nd rfl (by first | exact .inl rfl | exact .inr rfl)) (pgs_cons (pg_name (i := 12) nd rfl (by first | exact .inl rfl | exact .inr rfl)) (pgs_cons (pg_name (i := 13) nd rfl (by first | exact .inl rfl | exact .inr rfl)) pgs_nil))))))
  (ds_cons (ds_asg (tg := (.tp [14, 15])) (d_tup (d_cons (d_ix od_ix (ix_any (hu_of hr)) (d_var 3) (d_var 9) (fun _ _ => rfl)) (d_cons (d_tup (d_cons (d_callN G._law_tile hr (by decide) (by rfl) (d_cons (d_var 0) (d_cons d_int d_nil))) (d_cons (d_ix od_ix (ix_any (hu_of hr)) (d_tup (d_cons d_non (d_cons d_int d_nil))) (d_callN G._law_tile hr (by decide) (by rfl) (d_cons (d_var 0) (d_cons d_int d_nil))) (fun _ _ => rfl)) d_nil))) d_nil))) (pg_tup rfl (pgs_cons (pg_name (i := 14) nd rfl (by first | exact .inl rfl | exact .inr rfl)) (pgs_cons (pg_name (i := 15) nd rfl (by first | exact .inl rfl | exact .inr rfl)) pgs_nil))))
  (ds_cons (ds_par (i := 16) (j := 17) rfl nd rfl rfl (by decide) rfl rfl (d_cons (d_callN G.measure_of hr (by decide) (by rfl) (d_cons (d_var 1) (d_cons (d_op od_add op_addA (d_tup (d_cons d_str (d_cons (d_var 14) d_nil))) (d_var 15)) d_nil))) (d_cons (d_callN G.measure_of hr (by decide) (by rfl) (d_cons (d_var 1) (d_cons (d_op od_add op_addA (d_tup (d_cons d_str (d_cons (d_var 14) d_nil))) (d_var 15)) d_nil))) d_nil)) (by rfl))
  (ds_cons (ds_if (PW.pt (d_orT (d_notT (d_val (d_callN G._law_told hr (by decide) (by rfl) (d_cons (d_var 16) (d_cons (d_op od_sub op_sub (d_var 12) (d_var 10)) d_nil))))) (d_orT (d_notT (d_val (d_callN G._law_told hr (by decide) (by rfl) (d_cons (d_var 17) (d_cons (d_op od_sub op_sub (d_var 13) (d_var 11)) d_nil))))) (d_or1 (d_notT (d_val (d_callN G._law_same hr (by decide) (by rfl) (d_cons (d_callN G.box_of hr (by decide) (by rfl) (d_cons (d_var 1) (d_cons (d_var 14) d_nil))) (d_cons (d_ix od_ix (ix_any (hu_of hr)) (d_var 6) (d_var 9) (fun _ _ => rfl)) d_nil))))))))) (ds_one (ds_ret d_bl)) ds_nil)
  (ds_cons (ds_par (i := 7) (j := 8) rfl nd rfl rfl (by decide) rfl rfl (d_cons (d_op od_add op_addA (d_var 7) (d_op od_mul op_mulA d_int (d_op od_add op_addA (d_var 16) (d_var 17)))) (d_cons (d_op od_add op_addA (d_var 8) (d_op od_mul op_mulA (d_var 16) (d_var 17))) d_nil)) (by rfl))
  (ds_one (ds_if (PW.pt (d_orT (d_notT (d_val (d_var 2))) (d_or1 (d_cmpT od_eq op_eq (d_callN G._law_tile hr (by decide) (by rfl) (d_cons (d_var 0) (d_cons d_int d_nil))) d_int (nomark _))))) (ds_cons (ds_setLc 18 (own := [("side", 23)]) (tg := (.nm 23)) [23] rfl nd rfl rfl (sw_true rfl rfl rfl (by decide +kernel)) (di_seq (d_tup (d_cons d_str (d_cons d_str (d_cons d_str (d_cons d_str d_nil)))))) (blkOk_by (N := N__law_summed) (sc := defScope s__law_summed) (by decide +kernel)) (fun _ _ _ _ _ => (pg_name (i := 23) nd rfl (by first | exact .inl rfl | exact .inr rfl))) (fun _ _ _ _ _ => d_yes) (fun _ _ _ _ _ => (d_callN G.measure_of hr (by decide) (by rfl) (d_cons (d_var 1) (d_cons (d_op od_add op_addA (d_tup (d_cons d_str (d_cons (d_var 14) (d_cons (d_var 23) d_nil)))) (d_var 15)) d_nil)))))
  (ds_cons (ds_if (d_notT (d_val (d_callN G._law_same hr (by decide) (by rfl) (d_cons (d_callTy cd_toTup call_tuple_of (by rfl) T.n_tuple bt_tuple (d_cons (d_var 18) d_nil)) (d_cons (d_tup (d_cons (d_op od_sub op_sub (d_var 4) (d_var 12)) (d_cons (d_op od_sub op_sub (d_var 5) (d_var 13)) (d_cons (d_var 10) (d_cons (d_var 11) d_nil))))) d_nil))))) (ds_one (ds_ret d_bl)) ds_nil)
  (ds_one (ds_if (PW.pt (d_orT (d_cmpT od_ne op_ne (d_op od_add op_addA (d_op od_add op_addA (d_ix od_ix (ix_any (hu_of hr)) (d_var 18) d_int (fun _ _ => rfl)) (d_var 16)) (d_ix od_ix (ix_any (hu_of hr)) (d_var 18) d_int (fun _ _ => rfl))) (d_callN G.measure_of hr (by decide) (by rfl) (d_cons (d_var 1) (d_cons (d_op od_add op_addA (d_tup (d_cons d_str (d_cons d_str d_nil))) (d_var 15)) d_nil))) (nomark _)) (d_or1 (d_cmpT od_ne op_ne (d_op od_add op_addA (d_op od_add op_addA (d_ix od_ix (ix_any (hu_of hr)) (d_var 18) d_int (fun _ _ => rfl)) (d_var 17)) (d_ix od_ix (ix_any (hu_of hr)) (d_var 18) d_int (fun _ _ => rfl))) (d_callN G.measure_of hr (by decide) (by rfl) (d_cons (d_var 1) (d_cons (d_op od_add op_addA (d_tup (d_cons d_str (d_cons d_str d_nil))) (d_var 15)) d_nil))) (nomark _))))) (ds_one (ds_ret d_bl)) ds_nil)))) ds_nil))))))))
  (ds_cons (ds_set 19 nd d_int)
  (ds_cons (ds_for (tg := (.nm 9)) PassesOwn.never rfl (di_r1 (by rfl) T.n_range (d_cons (d_callB cd_len call_lenA (by rfl) T.n_len bt_len (d_cons (d_var 3) d_nil)) d_nil)) (pg_name (i := 9) nd rfl (by first | exact .inl rfl | exact .inr rfl)) (ds_one (ds_for (tg := (.nm 20)) PassesOwn.never rfl (di_r2 (by rfl) T.n_range (d_cons (d_op od_add op_addA (d_var 9) d_int) (d_cons (d_callB cd_len call_lenA (by rfl) T.n_len bt_len (d_cons (d_var 3) d_nil)) d_nil))) (pg_name (i := 20) nd rfl (by first | exact .inl rfl | exact .inr rfl)) (ds_cons (ds_set 21 nd (d_callN G._law_share hr (by decide) (by rfl) (d_cons (d_ix od_ix (ix_any (hu_of hr)) (d_var 6) (d_var 9) (fun _ _ => rfl)) (d_cons (d_ix od_ix (ix_any (hu_of hr)) (d_var 6) (d_var 20) (fun _ _ => rfl)) d_nil))))
  (ds_one (ds_if (PW.pt (d_orT (d_cmpT od_gt op_gt (d_var 21) d_int (nomark _)) (d_or1 (d_cmpT od_eq op_eq (d_callN G._law_tile hr (by decide) (by rfl) (d_cons (d_var 0) (d_cons d_int d_nil))) d_int (nomark _))))) (ds_cons (ds_set 22 nd (d_ifE (d_cmpT od_eq op_eq (d_callN G._law_tile hr (by decide) (by rfl) (d_cons (d_var 0) (d_cons d_int d_nil))) d_int (nomark _)) (d_callN G.share_of hr (by decide) (by rfl) (d_cons (d_var 1) (d_cons (d_ix od_ix (ix_any (hu_of hr)) (d_var 3) (d_var 9) (fun _ _ => rfl)) (d_cons (d_ix od_ix (ix_any (hu_of hr)) (d_var 3) (d_var 20) (fun _ _ => rfl)) d_nil)))) (d_callN G.share_of hr (by decide) (by rfl) (d_cons (d_var 1) (d_cons (d_ix od_ix (ix_any (hu_of hr)) (d_var 3) (d_var 20) (fun _ _ => rfl)) (d_cons (d_ix od_ix (ix_any (hu_of hr)) (d_var 3) (d_var 9) (fun _ _ => rfl)) d_nil))))))
  (ds_cons (ds_if (PW.pt (d_orT (d_notT (d_val (d_callN G._law_told hr (by decide) (by rfl) (d_cons (d_var 22) (d_cons (d_var 21) d_nil))))) (d_or1 (PW.pt (d_andT (d_cmpT od_gt op_gt (d_var 21) d_int (nomark _)) (d_and1 (d_notT (d_val (d_callN G._law_told hr (by decide) (by rfl) (d_cons (d_callN G.measure_of hr (by decide) (by rfl) (d_cons (d_var 1) (d_cons (d_tup (d_cons d_str (d_cons (d_ix od_ix (ix_any (hu_of hr)) (d_var 3) (d_var 9) (fun _ _ => rfl)) (d_cons (d_ix od_ix (ix_any (hu_of hr)) (d_var 3) (d_var 20) (fun _ _ => rfl)) (d_cons d_int (d_cons d_non d_nil)))))) d_nil))) (d_cons (d_var 21) d_nil))))))))))) (ds_one (ds_ret d_bl)) ds_nil)
  (ds_one (ds_set 19 nd (d_op od_add op_addA (d_var 19) (d_var 22)))))) ds_nil))))))
  (ds_one (ds_ret (d_and (d_cmp od_eq op_eq (d_var 7) (d_op od_add op_addA (d_op od_mul op_mulA d_int (d_var 19)) (d_op od_mul op_mulA d_int (d_op od_add op_addA (d_var 4) (d_var 5)))) (nomark _)) (d_one (d_cmp od_eq op_eq (d_var 8) (d_op od_mul op_mulA (d_var 4) (d_var 5)) (nomark _)))))))))))
abbrev s_law : Stmt := topS 23
theorem sc_law : FnScope N_law ["script"] (defScope s_law) := ⟨rfl, rfl, rfl, by decide +kernel, rfl, by decide +kernel, by decide +kernel⟩
structure G_law (P : Program) (w : World) (K : PySem.W.Frag) (mg : Str → Option Value) (base : Heap) : Prop where
  _law_moved : Callee P w K mg base "_law_moved" lv__law_moved ["plan", "mirrored", "quarters", "times"] S__law_moved
  _law_plan : Callee P w K mg base "_law_plan" lv__law_plan ["tiler", "many"] S__law_plan
  _law_same : Callee P w K mg base "_law_same" lv__law_same ["told", "due"] S__law_same
  _law_summed : Callee P w K mg base "_law_summed" lv__law_summed ["tiler", "plan", "few"] S__law_summed
  _law_tile : Callee P w K mg base "_law_tile" lv__law_tile ["tiler", "many"] S__law_tile
  _law_tiler : Callee P w K mg base "_law_tiler" lv__law_tiler ["script"] S__law_tiler
  mirrored_plan : Callee P w K mg base "mirrored_plan" lv_mirrored_plan ["plan"] S_mirrored_plan
  scaled_plan : Callee P w K mg base "scaled_plan" lv_scaled_plan ["plan", "times"] S_scaled_plan
  turned_plan : Callee P w K mg base "turned_plan" lv_turned_plan ["plan", "n"] S_turned_plan
theorem der_law {P : Program} {w : World} {K : PySem.W.Frag} {mg : Str → Option Value} {base : Heap} {f : Addr} (T : Nms mg) (G : G_law P w K mg base) (cdv : Value) (A : Around) (outer : List Env) (s : Shared) (H : Hp) (E : XK) (hr : Room 7 (A.deeper (envOfC "law" (defScope s_law) s.heap.objs.size f cdv))) :
    PSs (cxOf CX0 P w K mg base N_law "law" (defScope s_law) f cdv A outer s H E).nox (defBody s_law) (lS K t_law) := by
  have nd := (sc_law).nd
  exact (ds_cons (ds_set 1 nd (d_callN G._law_tiler hr (by decide) (by rfl) (d_cons (d_var 0) d_nil)))
  (ds_cons (ds_set 2 nd (d_ix od_ix (ix_any (hu_of hr)) (d_tup (d_cons (d_op od_add op_addA d_int (d_callN G._law_tile hr (by decide) (by rfl) (d_cons (d_var 1) (d_cons d_int d_nil)))) (d_cons (d_op od_add op_addA d_int (d_callN G._law_tile hr (by decide) (by rfl) (d_cons (d_var 1) (d_cons d_int d_nil)))) (d_cons (d_op od_add op_addA d_int (d_callN G._law_tile hr (by decide) (by rfl) (d_cons (d_var 1) (d_cons d_int d_nil)))) d_nil)))) (d_callN G._law_tile hr (by decide) (by rfl) (d_cons (d_var 1) (d_cons d_int d_nil))) (fun _ _ => rfl)))
  (ds_cons (ds_set 3 nd (d_callN G._law_plan hr (by decide) (by rfl) (d_cons (d_var 1) (d_cons (d_var 2) d_nil))))
  (ds_cons (ds_if (d_notT (d_val (d_callN G._law_summed hr (by decide) (by rfl) (d_cons (d_var 1) (d_cons (d_var 3) (d_cons (d_cmp od_gt op_gt (d_var 2) d_int (nomark _)) d_nil)))))) (ds_one (ds_ret d_bl)) ds_nil)
  (ds_cons (ds_set 4 nd (d_ix od_ix (ix_any (hu_of hr)) (d_tup (d_cons (d_op od_sub op_sub (d_callN G._law_tile hr (by decide) (by rfl) (d_cons (d_var 1) (d_cons d_int d_nil))) d_int) (d_cons (d_op od_sub op_sub (d_callN G._law_tile hr (by decide) (by rfl) (d_cons (d_var 1) (d_cons d_int d_nil))) d_int) d_nil))) (d_callN G._law_tile hr (by decide) (by rfl) (d_cons (d_var 1) (d_cons d_int d_nil))) (fun _ _ => rfl)))
  (ds_cons (ds_set 5 nd (d_op od_add op_addA d_int (d_callN G._law_tile hr (by decide) (by rfl) (d_cons (d_var 1) (d_cons (d_callB cd_min (call_minA rfl) (by rfl) T.n_min bt_min (d_cons d_int (d_cons (d_op od_div op_fdivW d_int (d_callB cd_max (call_maxA rfl) (by rfl) T.n_max bt_max (d_cons (d_ix od_ix (ix_any (hu_of hr)) (d_var 3) d_int (fun _ _ => rfl)) (d_cons (d_ix od_ix (ix_any (hu_of hr)) (d_var 3) d_int (fun _ _ => rfl)) d_nil)))) d_nil))) d_nil)))))
  (ds_cons (ds_set 6 nd (d_lst (d_cons (d_callN G._law_moved hr (by decide) (by rfl) (d_cons (d_var 3) (d_cons d_int (d_cons (d_var 4) (d_cons d_int d_nil))))) (d_cons (d_callN G._law_moved hr (by decide) (by rfl) (d_cons (d_var 3) (d_cons d_int (d_cons d_int (d_cons d_int d_nil))))) (d_cons (d_callN G._law_moved hr (by decide) (by rfl) (d_cons (d_var 3) (d_cons d_int (d_cons d_int (d_cons (d_var 5) d_nil))))) d_nil)))))
  (ds_cons (ds_if (d_notT (d_val (d_callN G._law_same hr (by decide) (by rfl) (d_cons (d_tup (d_cons (d_callN G.turned_plan hr (by decide) (by rfl) (d_cons (d_var 3) (d_cons (d_var 4) d_nil))) (d_cons (d_callN G.mirrored_plan hr (by decide) (by rfl) (d_cons (d_var 3) d_nil)) (d_cons (d_callN G.scaled_plan hr (by decide) (by rfl) (d_cons (d_var 3) (d_cons (d_var 5) d_nil))) d_nil)))) (d_cons (d_callTy cd_toTup call_tuple_of (by rfl) T.n_tuple bt_tuple (d_cons (d_var 6) d_nil)) d_nil))))) (ds_one (ds_ret d_bl)) ds_nil)
  (ds_cons (ds_set 7 nd (d_ix od_ix (ix_any (hu_of hr)) (d_lst (d_cons (d_ix od_ix (ix_any (hu_of hr)) (d_var 6) d_int (fun _ _ => rfl)) (d_cons (d_ix od_ix (ix_any (hu_of hr)) (d_var 6) d_int (fun _ _ => rfl)) (d_cons (d_ix od_ix (ix_any (hu_of hr)) (d_var 6) d_int (fun _ _ => rfl)) (d_cons (d_callN G._law_moved hr (by decide) (by rfl) (d_cons (d_callN G._law_moved hr (by decide) (by rfl) (d_cons (d_var 3) (d_cons d_int (d_cons d_int (d_cons d_int d_nil))))) (d_cons d_int (d_cons (d_var 4) (d_cons (d_var 5) d_nil))))) d_nil))))) (d_callN G._law_tile hr (by decide) (by rfl) (d_cons (d_var 1) (d_cons d_int d_nil))) (fun _ _ => rfl)))
  (ds_cons (ds_if (d_notT (d_val (d_callN G._law_same hr (by decide) (by rfl) (d_cons (d_callN G.scaled_plan hr (by decide) (by rfl) (d_cons (d_callN G.turned_plan hr (by decide) (by rfl) (d_cons (d_callN G.mirrored_plan hr (by decide) (by rfl) (d_cons (d_var 3) d_nil)) (d_cons (d_var 4) d_nil))) (d_cons (d_var 5) d_nil))) (d_cons (d_callN G._law_moved hr (by decide) (by rfl) (d_cons (d_callN G._law_moved hr (by decide) (by rfl) (d_cons (d_var 3) (d_cons d_int (d_cons d_int (d_cons d_int d_nil))))) (d_cons d_int (d_cons (d_var 4) (d_cons (d_var 5) d_nil))))) d_nil))))) (ds_one (ds_ret d_bl)) ds_nil)
  (ds_one (ds_ret (d_callN G._law_summed hr (by decide) (by rfl) (d_cons (d_var 1) (d_cons (d_var 7) (d_cons d_bl d_nil))))))))))))))))
end K53
end
section
open PySem PySem.Spec PyProof.Rows L2
set_option Elab.async false
set_option linter.all false
set_option maxRecDepth 100000
namespace K53
open DD
theorem reps_ints (K : PySem.W.Frag) (H : Hp) : ∀ ns : List Int, Reps K H (ns.map V.int) (ns.map D.int)
  | [] => .nil
  | n :: ns => .cons (.int n) (reps_ints K H ns)
theorem start_law (K : PySem.W.Frag) (H : Hp) (a : Addr) (ns : List Int) (hl : ns.length ≤ 63) (hO : Only H) (hS : SqL K H a (ns.map V.int)) : lSp K S_law [.ref a] H (fun v _ => v = .bl true) fun _ _ _ => False := by
  have hR : RoL K H a (ns.map V.int) := by
    intro H' st
    rcases hS with h | h
    · rcases hO a with e | ⟨o, xs, e⟩
      · rcases h with h | ⟨o, h⟩
        · rw [e] at h; cases h
        · rw [e] at h; cases h
      · rcases h with h | ⟨o', h⟩
        · rw [e] at h; cases h
        · exact .inl (.inr ⟨_, st.frz _ _ _ h⟩)
    · exact .inr h
  exact ⟨[.rol (ns.map .int)], fun _ => none, fun d _ => d = .bl true, .cons (.rol hR (reps_ints K H ns)) .nil, fun _ _ e => (by cases e), ⟨ns, rfl, hl, fun _ => rfl⟩, fun v H' d μ' _ _ r q => by
    subst q
    cases r
    rfl⟩
section
variable {P : Program} {w : World} {K : PySem.W.Frag} {mg : Str → Option Value} {base : Heap} {f : Addr} {fd : FuncData}
theorem ok_box_table (T : Nms mg) (G : G_box_table P w K mg base) (F : Fun K "box_table" "box_table" s_box_table f fd) : FnOk P w K mg base CX0 lv_box_table f fd ["plan"] (lSp K S_box_table) :=
  dfn (k := 0) t_box_table F sc_box_table (fun ds μ Q h => by first | (obtain ⟨_, rfl, _⟩ := h; rfl) | (obtain ⟨_, _, rfl, _⟩ := h; rfl) | (obtain ⟨_, _, _, rfl, _⟩ := h; rfl) | (obtain ⟨_, _, _, _, rfl, _⟩ := h; rfl) | (obtain ⟨_, _, _, _, _, rfl, _⟩ := h; rfl) | (obtain ⟨_, _, _, _, _, _, rfl, _⟩ := h; rfl)) (fun cdv A outer s H E hr => der_box_table T G cdv A outer s H E hr) (fun ds μ Q h => rd_box_table ds μ Q h)
theorem ok_stretch_of (T : Nms mg) (G : G_stretch_of P w K mg base) (F : Fun K "stretch_of" "stretch_of" s_stretch_of f fd) : FnOk P w K mg base CX0 lv_stretch_of f fd ["one", "other"] (lSp K S_stretch_of) :=
  dfn (k := 0) t_stretch_of F sc_stretch_of (fun ds μ Q h => by first | (obtain ⟨_, rfl, _⟩ := h; rfl) | (obtain ⟨_, _, rfl, _⟩ := h; rfl) | (obtain ⟨_, _, _, rfl, _⟩ := h; rfl) | (obtain ⟨_, _, _, _, rfl, _⟩ := h; rfl) | (obtain ⟨_, _, _, _, _, rfl, _⟩ := h; rfl) | (obtain ⟨_, _, _, _, _, _, rfl, _⟩ := h; rfl)) (fun cdv A outer s H E hr => der_stretch_of T G cdv A outer s H E hr) (fun ds μ Q h => rd_stretch_of ds μ Q h)
theorem ok_turned_plan (T : Nms mg) (G : G_turned_plan P w K mg base) (F : Fun K "turned_plan" "turned_plan" s_turned_plan f fd) : FnOk P w K mg base CX0 lv_turned_plan f fd ["plan", "n"] (lSp K S_turned_plan) :=
  dfn (k := 0) t_turned_plan F sc_turned_plan (fun ds μ Q h => by first | (obtain ⟨_, rfl, _⟩ := h; rfl) | (obtain ⟨_, _, rfl, _⟩ := h; rfl) | (obtain ⟨_, _, _, rfl, _⟩ := h; rfl) | (obtain ⟨_, _, _, _, rfl, _⟩ := h; rfl) | (obtain ⟨_, _, _, _, _, rfl, _⟩ := h; rfl) | (obtain ⟨_, _, _, _, _, _, rfl, _⟩ := h; rfl)) (fun cdv A outer s H E hr => der_turned_plan T G cdv A outer s H E hr) (fun ds μ Q h => rd_turned_plan ds μ Q h)
theorem ok_mirrored_plan (T : Nms mg) (G : G_mirrored_plan P w K mg base) (F : Fun K "mirrored_plan" "mirrored_plan" s_mirrored_plan f fd) : FnOk P w K mg base CX0 lv_mirrored_plan f fd ["plan"] (lSp K S_mirrored_plan) :=
  dfn (k := 0) t_mirrored_plan F sc_mirrored_plan (fun ds μ Q h => by first | (obtain ⟨_, rfl, _⟩ := h; rfl) | (obtain ⟨_, _, rfl, _⟩ := h; rfl) | (obtain ⟨_, _, _, rfl, _⟩ := h; rfl) | (obtain ⟨_, _, _, _, rfl, _⟩ := h; rfl) | (obtain ⟨_, _, _, _, _, rfl, _⟩ := h; rfl) | (obtain ⟨_, _, _, _, _, _, rfl, _⟩ := h; rfl)) (fun cdv A outer s H E hr => der_mirrored_plan T G cdv A outer s H E hr) (fun ds μ Q h => rd_mirrored_plan ds μ Q h)
theorem ok_scaled_plan (T : Nms mg) (G : G_scaled_plan P w K mg base) (F : Fun K "scaled_plan" "scaled_plan" s_scaled_plan f fd) : FnOk P w K mg base CX0 lv_scaled_plan f fd ["plan", "times"] (lSp K S_scaled_plan) :=
  dfn (k := 0) t_scaled_plan F sc_scaled_plan (fun ds μ Q h => by first | (obtain ⟨_, rfl, _⟩ := h; rfl) | (obtain ⟨_, _, rfl, _⟩ := h; rfl) | (obtain ⟨_, _, _, rfl, _⟩ := h; rfl) | (obtain ⟨_, _, _, _, rfl, _⟩ := h; rfl) | (obtain ⟨_, _, _, _, _, rfl, _⟩ := h; rfl) | (obtain ⟨_, _, _, _, _, _, rfl, _⟩ := h; rfl)) (fun cdv A outer s H E hr => der_scaled_plan T G cdv A outer s H E hr) (fun ds μ Q h => rd_scaled_plan ds μ Q h)
theorem ok__law_tiler (T : Nms mg) (G : G__law_tiler P w K mg base) (F : Fun K "_law_tiler" "_law_tiler" s__law_tiler f fd) : FnOk P w K mg base CX0 lv__law_tiler f fd ["script"] (lSp K S__law_tiler) :=
  dfn (k := 0) t__law_tiler F sc__law_tiler (fun ds μ Q h => by first | (obtain ⟨_, rfl, _⟩ := h; rfl) | (obtain ⟨_, _, rfl, _⟩ := h; rfl) | (obtain ⟨_, _, _, rfl, _⟩ := h; rfl) | (obtain ⟨_, _, _, _, rfl, _⟩ := h; rfl) | (obtain ⟨_, _, _, _, _, rfl, _⟩ := h; rfl) | (obtain ⟨_, _, _, _, _, _, rfl, _⟩ := h; rfl)) (fun cdv A outer s H E hr => der__law_tiler T G cdv A outer s H E hr) (fun ds μ Q h => rd__law_tiler ds μ Q h)
theorem ok__law_tile (T : Nms mg) (G : G__law_tile P w K mg base) (F : Fun K "_law_tile" "_law_tile" s__law_tile f fd) : FnOk P w K mg base CX0 lv__law_tile f fd ["tiler", "many"] (lSp K S__law_tile) :=
  dfn (k := 0) t__law_tile F sc__law_tile (fun ds μ Q h => by first | (obtain ⟨_, rfl, _⟩ := h; rfl) | (obtain ⟨_, _, rfl, _⟩ := h; rfl) | (obtain ⟨_, _, _, rfl, _⟩ := h; rfl) | (obtain ⟨_, _, _, _, rfl, _⟩ := h; rfl) | (obtain ⟨_, _, _, _, _, rfl, _⟩ := h; rfl) | (obtain ⟨_, _, _, _, _, _, rfl, _⟩ := h; rfl)) (fun cdv A outer s H E hr => der__law_tile T G cdv A outer s H E hr) (fun ds μ Q h => rd__law_tile ds μ Q h)
theorem ok__law_share (T : Nms mg) (G : G__law_share P w K mg base) (F : Fun K "_law_share" "_law_share" s__law_share f fd) : FnOk P w K mg base CX0 lv__law_share f fd ["one", "other"] (lSp K S__law_share) :=
  dfn (k := 0) t__law_share F sc__law_share (fun ds μ Q h => by first | (obtain ⟨_, rfl, _⟩ := h; rfl) | (obtain ⟨_, _, rfl, _⟩ := h; rfl) | (obtain ⟨_, _, _, rfl, _⟩ := h; rfl) | (obtain ⟨_, _, _, _, rfl, _⟩ := h; rfl) | (obtain ⟨_, _, _, _, _, rfl, _⟩ := h; rfl) | (obtain ⟨_, _, _, _, _, _, rfl, _⟩ := h; rfl)) (fun cdv A outer s H E hr => der__law_share T G cdv A outer s H E hr) (fun ds μ Q h => rd__law_share ds μ Q h)
theorem ok__law_moved (T : Nms mg) (G : G__law_moved P w K mg base) (F : Fun K "_law_moved" "_law_moved" s__law_moved f fd) : FnOk P w K mg base CX0 lv__law_moved f fd ["plan", "mirrored", "quarters", "times"] (lSp K S__law_moved) :=
  dfn (k := 0) t__law_moved F sc__law_moved (fun ds μ Q h => by first | (obtain ⟨_, rfl, _⟩ := h; rfl) | (obtain ⟨_, _, rfl, _⟩ := h; rfl) | (obtain ⟨_, _, _, rfl, _⟩ := h; rfl) | (obtain ⟨_, _, _, _, rfl, _⟩ := h; rfl) | (obtain ⟨_, _, _, _, _, rfl, _⟩ := h; rfl) | (obtain ⟨_, _, _, _, _, _, rfl, _⟩ := h; rfl)) (fun cdv A outer s H E hr => der__law_moved T G cdv A outer s H E hr) (fun ds μ Q h => rd__law_moved ds μ Q h)
theorem ok__law_told (T : Nms mg) (G : G__law_told P w K mg base) (F : Fun K "_law_told" "_law_told" s__law_told f fd) : FnOk P w K mg base CX0 lv__law_told f fd ["number", "due"] (lSp K S__law_told) :=
  dfn (k := 0) t__law_told F sc__law_told (fun ds μ Q h => by first | (obtain ⟨_, rfl, _⟩ := h; rfl) | (obtain ⟨_, _, rfl, _⟩ := h; rfl) | (obtain ⟨_, _, _, rfl, _⟩ := h; rfl) | (obtain ⟨_, _, _, _, rfl, _⟩ := h; rfl) | (obtain ⟨_, _, _, _, _, rfl, _⟩ := h; rfl) | (obtain ⟨_, _, _, _, _, _, rfl, _⟩ := h; rfl)) (fun cdv A outer s H E hr => der__law_told T G cdv A outer s H E hr) (fun ds μ Q h => rd__law_told ds μ Q h)
theorem ok_box_of (T : Nms mg) (G : G_box_of P w K mg base) (F : Fun K "box_of" "box_of" s_box_of f fd) : FnOk P w K mg base CX0 lv_box_of f fd ["plan", "room"] (lSp K S_box_of) :=
  dfn (k := 1) t_box_of F sc_box_of (fun ds μ Q h => by first | (obtain ⟨_, rfl, _⟩ := h; rfl) | (obtain ⟨_, _, rfl, _⟩ := h; rfl) | (obtain ⟨_, _, _, rfl, _⟩ := h; rfl) | (obtain ⟨_, _, _, _, rfl, _⟩ := h; rfl) | (obtain ⟨_, _, _, _, _, rfl, _⟩ := h; rfl) | (obtain ⟨_, _, _, _, _, _, rfl, _⟩ := h; rfl)) (fun cdv A outer s H E hr => der_box_of T G cdv A outer s H E hr) (fun ds μ Q h => rd_box_of ds μ Q h)
theorem ok_share_of (T : Nms mg) (G : G_share_of P w K mg base) (F : Fun K "share_of" "share_of" s_share_of f fd) : FnOk P w K mg base CX0 lv_share_of f fd ["plan", "one", "other"] (lSp K S_share_of) :=
  dfn (k := 1) t_share_of F sc_share_of (fun ds μ Q h => by first | (obtain ⟨_, rfl, _⟩ := h; rfl) | (obtain ⟨_, _, rfl, _⟩ := h; rfl) | (obtain ⟨_, _, _, rfl, _⟩ := h; rfl) | (obtain ⟨_, _, _, _, rfl, _⟩ := h; rfl) | (obtain ⟨_, _, _, _, _, rfl, _⟩ := h; rfl) | (obtain ⟨_, _, _, _, _, _, rfl, _⟩ := h; rfl)) (fun cdv A outer s H E hr => der_share_of T G cdv A outer s H E hr) (fun ds μ Q h => rd_share_of ds μ Q h)
theorem ok__law_cut (T : Nms mg) (G : G__law_cut P w K mg base) (F : Fun K "_law_cut" "_law_cut" s__law_cut f fd) : FnOk P w K mg base CX0 lv__law_cut f fd ["tiler", "low", "high", "taken"] (lSp K S__law_cut) :=
  dfn (k := 1) t__law_cut F sc__law_cut (fun ds μ Q h => by first | (obtain ⟨_, rfl, _⟩ := h; rfl) | (obtain ⟨_, _, rfl, _⟩ := h; rfl) | (obtain ⟨_, _, _, rfl, _⟩ := h; rfl) | (obtain ⟨_, _, _, _, rfl, _⟩ := h; rfl) | (obtain ⟨_, _, _, _, _, rfl, _⟩ := h; rfl) | (obtain ⟨_, _, _, _, _, _, rfl, _⟩ := h; rfl)) (fun cdv A outer s H E hr => der__law_cut T G cdv A outer s H E hr) (fun ds μ Q h => rd__law_cut ds μ Q h)
theorem ok_off_measure (T : Nms mg) (G : G_off_measure P w K mg base) (F : Fun K "off_measure" "off_measure" s_off_measure f fd) : FnOk P w K mg base CX0 lv_off_measure f fd ["plan", "room", "side"] (lSp K S_off_measure) :=
  dfn (k := 2) t_off_measure F sc_off_measure (fun ds μ Q h => by first | (obtain ⟨_, rfl, _⟩ := h; rfl) | (obtain ⟨_, _, rfl, _⟩ := h; rfl) | (obtain ⟨_, _, _, rfl, _⟩ := h; rfl) | (obtain ⟨_, _, _, _, rfl, _⟩ := h; rfl) | (obtain ⟨_, _, _, _, _, rfl, _⟩ := h; rfl) | (obtain ⟨_, _, _, _, _, _, rfl, _⟩ := h; rfl)) (fun cdv A outer s H E hr => der_off_measure T G cdv A outer s H E hr) (fun ds μ Q h => rd_off_measure ds μ Q h)
theorem ok__law_boxes (T : Nms mg) (G : G__law_boxes P w K mg base) (F : Fun K "_law_boxes" "_law_boxes" s__law_boxes f fd) : FnOk P w K mg base CX0 lv__law_boxes f fd ["tiler", "many"] (lSp K S__law_boxes) :=
  dfn (k := 2) t__law_boxes F sc__law_boxes (fun ds μ Q h => by first | (obtain ⟨_, rfl, _⟩ := h; rfl) | (obtain ⟨_, _, rfl, _⟩ := h; rfl) | (obtain ⟨_, _, _, rfl, _⟩ := h; rfl) | (obtain ⟨_, _, _, _, rfl, _⟩ := h; rfl) | (obtain ⟨_, _, _, _, _, rfl, _⟩ := h; rfl) | (obtain ⟨_, _, _, _, _, _, rfl, _⟩ := h; rfl)) (fun cdv A outer s H E hr => der__law_boxes T G cdv A outer s H E hr) (fun ds μ Q h => rd__law_boxes ds μ Q h)
theorem ok_measure_of (T : Nms mg) (G : G_measure_of P w K mg base) (F : Fun K "measure_of" "measure_of" s_measure_of f fd) : FnOk P w K mg base CX0 lv_measure_of f fd ["plan", "size"] (lSp K S_measure_of) :=
  dfn (k := 3) t_measure_of F sc_measure_of (fun ds μ Q h => by first | (obtain ⟨_, rfl, _⟩ := h; rfl) | (obtain ⟨_, _, rfl, _⟩ := h; rfl) | (obtain ⟨_, _, _, rfl, _⟩ := h; rfl) | (obtain ⟨_, _, _, _, rfl, _⟩ := h; rfl) | (obtain ⟨_, _, _, _, _, rfl, _⟩ := h; rfl) | (obtain ⟨_, _, _, _, _, _, rfl, _⟩ := h; rfl)) (fun cdv A outer s H E hr => der_measure_of T G cdv A outer s H E hr) (fun ds μ Q h => rd_measure_of ds μ Q h)
theorem ok__law_plan (T : Nms mg) (G : G__law_plan P w K mg base) (F : Fun K "_law_plan" "_law_plan" s__law_plan f fd) : FnOk P w K mg base CX0 lv__law_plan f fd ["tiler", "many"] (lSp K S__law_plan) :=
  dfn (k := 3) t__law_plan F sc__law_plan (fun ds μ Q h => by first | (obtain ⟨_, rfl, _⟩ := h; rfl) | (obtain ⟨_, _, rfl, _⟩ := h; rfl) | (obtain ⟨_, _, _, rfl, _⟩ := h; rfl) | (obtain ⟨_, _, _, _, rfl, _⟩ := h; rfl) | (obtain ⟨_, _, _, _, _, rfl, _⟩ := h; rfl) | (obtain ⟨_, _, _, _, _, _, rfl, _⟩ := h; rfl)) (fun cdv A outer s H E hr => der__law_plan T G cdv A outer s H E hr) (fun ds μ Q h => rd__law_plan ds μ Q h)
theorem ok__law_same (T : Nms mg) (F : Fun K "_law_same" "_law_same" s__law_same f fd) (hm : mg "_law_same" = some (.ref f)) (hk : PySem.W.keepIn K (.ref f) = true) (hb : Binds K fd ["told", "due"] []) : ∀ n : Nat, FnOk P w K mg base CX0 (n + 1) f fd ["told", "due"] (lSp K (S__law_same_d n))
  | 0 => dfn (k := 0) (t__law_same fun _ _ _ => False) F sc__law_same (fun ds μ Q h => by first | (obtain ⟨_, rfl, _⟩ := h; rfl) | (obtain ⟨_, _, rfl, _⟩ := h; rfl) | (obtain ⟨_, _, _, rfl, _⟩ := h; rfl) | (obtain ⟨_, _, _, _, rfl, _⟩ := h; rfl) | (obtain ⟨_, _, _, _, _, rfl, _⟩ := h; rfl) | (obtain ⟨_, _, _, _, _, _, rfl, _⟩ := h; rfl)) (fun cdv A outer s H E hr => der__law_same T ⟨⟨f, fd, ⟨fun vs H Q E ⟨ds, μ, Qd, r, rm, q, fin⟩ => (show False from q).elim, fun A outer s H args us vs Q E hr he hb hv ⟨ds, μ, Qd, r, rm, q, fin⟩ => (show False from q).elim⟩, hm, hk, hb⟩⟩ cdv A outer s H E hr) (fun ds μ Q h => rd__law_same 0 ds μ Q _ (fun m e => absurd e (Nat.succ_ne_zero m).symm) h)
  | n + 1 => dfn (k := n + 1) (t__law_same (S__law_same_d n)) F sc__law_same (fun ds μ Q h => by first | (obtain ⟨_, rfl, _⟩ := h; rfl) | (obtain ⟨_, _, rfl, _⟩ := h; rfl) | (obtain ⟨_, _, _, rfl, _⟩ := h; rfl) | (obtain ⟨_, _, _, _, rfl, _⟩ := h; rfl) | (obtain ⟨_, _, _, _, _, rfl, _⟩ := h; rfl) | (obtain ⟨_, _, _, _, _, _, rfl, _⟩ := h; rfl)) (fun cdv A outer s H E hr => der__law_same T ⟨⟨f, fd, ok__law_same T F hm hk hb n, hm, hk, hb⟩⟩ cdv A outer s H E hr) (fun ds μ Q h => rd__law_same (n + 1) ds μ Q _ (fun m e => by cases e; rfl) h)
theorem ok__law_summed (T : Nms mg) (G : G__law_summed P w K mg base) (F : Fun K "_law_summed" "_law_summed" s__law_summed f fd) : FnOk P w K mg base CX0 lv__law_summed f fd ["tiler", "plan", "few"] (lSp K S__law_summed) :=
  dfn (k := 6) t__law_summed F sc__law_summed (fun ds μ Q h => by first | (obtain ⟨_, rfl, _⟩ := h; rfl) | (obtain ⟨_, _, rfl, _⟩ := h; rfl) | (obtain ⟨_, _, _, rfl, _⟩ := h; rfl) | (obtain ⟨_, _, _, _, rfl, _⟩ := h; rfl) | (obtain ⟨_, _, _, _, _, rfl, _⟩ := h; rfl) | (obtain ⟨_, _, _, _, _, _, rfl, _⟩ := h; rfl)) (fun cdv A outer s H E hr => der__law_summed T G cdv A outer s H E hr) (fun ds μ Q h => rd__law_summed ds μ Q h)
theorem ok_law (T : Nms mg) (G : G_law P w K mg base) (F : Fun K "law" "law" s_law f fd) : FnOk P w K mg base CX0 lv_law f fd ["script"] (lSp K S_law) :=
  dfn (k := 7) t_law F sc_law (fun ds μ Q h => by first | (obtain ⟨_, rfl, _⟩ := h; rfl) | (obtain ⟨_, _, rfl, _⟩ := h; rfl) | (obtain ⟨_, _, _, rfl, _⟩ := h; rfl) | (obtain ⟨_, _, _, _, rfl, _⟩ := h; rfl) | (obtain ⟨_, _, _, _, _, rfl, _⟩ := h; rfl) | (obtain ⟨_, _, _, _, _, _, rfl, _⟩ := h; rfl)) (fun cdv A outer s H E hr => der_law T G cdv A outer s H E hr) (fun ds μ Q h => rd_law ds μ Q h)
end
theorem all_mk {l : PySem.W.OpenLaw} {w : World} {K : PySem.W.Frag} {h : Heap} {mg : Str → Option Value} {fa : Addr} (X : K.In h) (G : h.Ns mainGlobals mg) (hfa : mg "law" = some (.ref fa))
    {f0 : Addr} {od0 an0 : Option Addr} {sl0 : Array (Option Value)} {oc0 kV0 dc0 pm0 cd0 ct0 : Value}
    (a0 : PySem.W.nsIn K mainGlobals "box_of" = some (some (.ref f0)))
    (l0 : K.lookup f0 = some ⟨oc0, od0, .func (PySem.W.fnOf "box_of" "box_of" (defArgs s_box_of) (defBody s_box_of) (defScope s_box_of) .none kV0 dc0 pm0 an0 cd0 ct0), sl0⟩)
    (c0 : PySem.W.codeIn K cd0 "box_of" = true) (k0 : PySem.W.keepIn K (.ref f0) = true)
    {f1 : Addr} {od1 an1 : Option Addr} {sl1 : Array (Option Value)} {oc1 kV1 dc1 pm1 cd1 ct1 : Value}
    (a1 : PySem.W.nsIn K mainGlobals "share_of" = some (some (.ref f1)))
    (l1 : K.lookup f1 = some ⟨oc1, od1, .func (PySem.W.fnOf "share_of" "share_of" (defArgs s_share_of) (defBody s_share_of) (defScope s_share_of) .none kV1 dc1 pm1 an1 cd1 ct1), sl1⟩)
    (c1 : PySem.W.codeIn K cd1 "share_of" = true) (k1 : PySem.W.keepIn K (.ref f1) = true)
    {f2 : Addr} {od2 an2 : Option Addr} {sl2 : Array (Option Value)} {oc2 kV2 dc2 pm2 cd2 ct2 : Value}
    (a2 : PySem.W.nsIn K mainGlobals "box_table" = some (some (.ref f2)))
    (l2 : K.lookup f2 = some ⟨oc2, od2, .func (PySem.W.fnOf "box_table" "box_table" (defArgs s_box_table) (defBody s_box_table) (defScope s_box_table) .none kV2 dc2 pm2 an2 cd2 ct2), sl2⟩)
    (c2 : PySem.W.codeIn K cd2 "box_table" = true) (k2 : PySem.W.keepIn K (.ref f2) = true)
    {f3 : Addr} {od3 an3 : Option Addr} {sl3 : Array (Option Value)} {oc3 kV3 dc3 pm3 cd3 ct3 : Value}
    (a3 : PySem.W.nsIn K mainGlobals "stretch_of" = some (some (.ref f3)))
    (l3 : K.lookup f3 = some ⟨oc3, od3, .func (PySem.W.fnOf "stretch_of" "stretch_of" (defArgs s_stretch_of) (defBody s_stretch_of) (defScope s_stretch_of) .none kV3 dc3 pm3 an3 cd3 ct3), sl3⟩)
    (c3 : PySem.W.codeIn K cd3 "stretch_of" = true) (k3 : PySem.W.keepIn K (.ref f3) = true)
    {f4 : Addr} {od4 an4 : Option Addr} {sl4 : Array (Option Value)} {oc4 kV4 dc4 pm4 cd4 ct4 : Value}
    (a4 : PySem.W.nsIn K mainGlobals "off_measure" = some (some (.ref f4)))
    (l4 : K.lookup f4 = some ⟨oc4, od4, .func (PySem.W.fnOf "off_measure" "off_measure" (defArgs s_off_measure) (defBody s_off_measure) (defScope s_off_measure) .none kV4 dc4 pm4 an4 cd4 ct4), sl4⟩)
    (c4 : PySem.W.codeIn K cd4 "off_measure" = true) (k4 : PySem.W.keepIn K (.ref f4) = true)
    {f5 : Addr} {od5 an5 : Option Addr} {sl5 : Array (Option Value)} {oc5 kV5 dc5 pm5 cd5 ct5 : Value}
    (a5 : PySem.W.nsIn K mainGlobals "measure_of" = some (some (.ref f5)))
    (l5 : K.lookup f5 = some ⟨oc5, od5, .func (PySem.W.fnOf "measure_of" "measure_of" (defArgs s_measure_of) (defBody s_measure_of) (defScope s_measure_of) .none kV5 dc5 pm5 an5 cd5 ct5), sl5⟩)
    (c5 : PySem.W.codeIn K cd5 "measure_of" = true) (k5 : PySem.W.keepIn K (.ref f5) = true)
    {f6 : Addr} {od6 an6 : Option Addr} {sl6 : Array (Option Value)} {oc6 kV6 dc6 pm6 cd6 ct6 : Value}
    (a6 : PySem.W.nsIn K mainGlobals "turned_plan" = some (some (.ref f6)))
    (l6 : K.lookup f6 = some ⟨oc6, od6, .func (PySem.W.fnOf "turned_plan" "turned_plan" (defArgs s_turned_plan) (defBody s_turned_plan) (defScope s_turned_plan) .none kV6 dc6 pm6 an6 cd6 ct6), sl6⟩)
    (c6 : PySem.W.codeIn K cd6 "turned_plan" = true) (k6 : PySem.W.keepIn K (.ref f6) = true)
    {f7 : Addr} {od7 an7 : Option Addr} {sl7 : Array (Option Value)} {oc7 kV7 dc7 pm7 cd7 ct7 : Value}
    (a7 : PySem.W.nsIn K mainGlobals "mirrored_plan" = some (some (.ref f7)))
    (l7 : K.lookup f7 = some ⟨oc7, od7, .func (PySem.W.fnOf "mirrored_plan" "mirrored_plan" (defArgs s_mirrored_plan) (defBody s_mirrored_plan) (defScope s_mirrored_plan) .none kV7 dc7 pm7 an7 cd7 ct7), sl7⟩)
    (c7 : PySem.W.codeIn K cd7 "mirrored_plan" = true) (k7 : PySem.W.keepIn K (.ref f7) = true)
    {f8 : Addr} {od8 an8 : Option Addr} {sl8 : Array (Option Value)} {oc8 kV8 dc8 pm8 cd8 ct8 : Value}
    (a8 : PySem.W.nsIn K mainGlobals "scaled_plan" = some (some (.ref f8)))
    (l8 : K.lookup f8 = some ⟨oc8, od8, .func (PySem.W.fnOf "scaled_plan" "scaled_plan" (defArgs s_scaled_plan) (defBody s_scaled_plan) (defScope s_scaled_plan) .none kV8 dc8 pm8 an8 cd8 ct8), sl8⟩)
    (c8 : PySem.W.codeIn K cd8 "scaled_plan" = true) (k8 : PySem.W.keepIn K (.ref f8) = true)
    {f9 : Addr} {od9 an9 : Option Addr} {sl9 : Array (Option Value)} {oc9 kV9 dc9 pm9 cd9 ct9 : Value}
    (a9 : PySem.W.nsIn K mainGlobals "_law_tiler" = some (some (.ref f9)))
    (l9 : K.lookup f9 = some ⟨oc9, od9, .func (PySem.W.fnOf "_law_tiler" "_law_tiler" (defArgs s__law_tiler) (defBody s__law_tiler) (defScope s__law_tiler) .none kV9 dc9 pm9 an9 cd9 ct9), sl9⟩)
    (c9 : PySem.W.codeIn K cd9 "_law_tiler" = true) (k9 : PySem.W.keepIn K (.ref f9) = true)
    {f10 : Addr} {od10 an10 : Option Addr} {sl10 : Array (Option Value)} {oc10 kV10 dc10 pm10 cd10 ct10 : Value}
    (a10 : PySem.W.nsIn K mainGlobals "_law_tile" = some (some (.ref f10)))
    (l10 : K.lookup f10 = some ⟨oc10, od10, .func (PySem.W.fnOf "_law_tile" "_law_tile" (defArgs s__law_tile) (defBody s__law_tile) (defScope s__law_tile) .none kV10 dc10 pm10 an10 cd10 ct10), sl10⟩)
    (c10 : PySem.W.codeIn K cd10 "_law_tile" = true) (k10 : PySem.W.keepIn K (.ref f10) = true)
    {f11 : Addr} {od11 an11 : Option Addr} {sl11 : Array (Option Value)} {oc11 kV11 dc11 pm11 cd11 ct11 : Value}
    (a11 : PySem.W.nsIn K mainGlobals "_law_cut" = some (some (.ref f11)))
    (l11 : K.lookup f11 = some ⟨oc11, od11, .func (PySem.W.fnOf "_law_cut" "_law_cut" (defArgs s__law_cut) (defBody s__law_cut) (defScope s__law_cut) .none kV11 dc11 pm11 an11 cd11 ct11), sl11⟩)
    (c11 : PySem.W.codeIn K cd11 "_law_cut" = true) (k11 : PySem.W.keepIn K (.ref f11) = true)
    {f12 : Addr} {od12 an12 : Option Addr} {sl12 : Array (Option Value)} {oc12 kV12 dc12 pm12 cd12 ct12 : Value}
    (a12 : PySem.W.nsIn K mainGlobals "_law_boxes" = some (some (.ref f12)))
    (l12 : K.lookup f12 = some ⟨oc12, od12, .func (PySem.W.fnOf "_law_boxes" "_law_boxes" (defArgs s__law_boxes) (defBody s__law_boxes) (defScope s__law_boxes) .none kV12 dc12 pm12 an12 cd12 ct12), sl12⟩)
    (c12 : PySem.W.codeIn K cd12 "_law_boxes" = true) (k12 : PySem.W.keepIn K (.ref f12) = true)
    {f13 : Addr} {od13 an13 : Option Addr} {sl13 : Array (Option Value)} {oc13 kV13 dc13 pm13 cd13 ct13 : Value}
    (a13 : PySem.W.nsIn K mainGlobals "_law_plan" = some (some (.ref f13)))
    (l13 : K.lookup f13 = some ⟨oc13, od13, .func (PySem.W.fnOf "_law_plan" "_law_plan" (defArgs s__law_plan) (defBody s__law_plan) (defScope s__law_plan) .none kV13 dc13 pm13 an13 cd13 ct13), sl13⟩)
    (c13 : PySem.W.codeIn K cd13 "_law_plan" = true) (k13 : PySem.W.keepIn K (.ref f13) = true)
    {f14 : Addr} {od14 an14 : Option Addr} {sl14 : Array (Option Value)} {oc14 kV14 dc14 pm14 cd14 ct14 : Value}
    (a14 : PySem.W.nsIn K mainGlobals "_law_share" = some (some (.ref f14)))
    (l14 : K.lookup f14 = some ⟨oc14, od14, .func (PySem.W.fnOf "_law_share" "_law_share" (defArgs s__law_share) (defBody s__law_share) (defScope s__law_share) .none kV14 dc14 pm14 an14 cd14 ct14), sl14⟩)
    (c14 : PySem.W.codeIn K cd14 "_law_share" = true) (k14 : PySem.W.keepIn K (.ref f14) = true)
    {f15 : Addr} {od15 an15 : Option Addr} {sl15 : Array (Option Value)} {oc15 kV15 dc15 pm15 cd15 ct15 : Value}
    (a15 : PySem.W.nsIn K mainGlobals "_law_moved" = some (some (.ref f15)))
    (l15 : K.lookup f15 = some ⟨oc15, od15, .func (PySem.W.fnOf "_law_moved" "_law_moved" (defArgs s__law_moved) (defBody s__law_moved) (defScope s__law_moved) .none kV15 dc15 pm15 an15 cd15 ct15), sl15⟩)
    (c15 : PySem.W.codeIn K cd15 "_law_moved" = true) (k15 : PySem.W.keepIn K (.ref f15) = true)
    {f16 : Addr} {od16 an16 : Option Addr} {sl16 : Array (Option Value)} {oc16 kV16 dc16 pm16 cd16 ct16 : Value}
    (a16 : PySem.W.nsIn K mainGlobals "_law_same" = some (some (.ref f16)))
    (l16 : K.lookup f16 = some ⟨oc16, od16, .func (PySem.W.fnOf "_law_same" "_law_same" (defArgs s__law_same) (defBody s__law_same) (defScope s__law_same) .none kV16 dc16 pm16 an16 cd16 ct16), sl16⟩)
    (c16 : PySem.W.codeIn K cd16 "_law_same" = true) (k16 : PySem.W.keepIn K (.ref f16) = true)
    {f17 : Addr} {od17 an17 : Option Addr} {sl17 : Array (Option Value)} {oc17 kV17 dc17 pm17 cd17 ct17 : Value}
    (a17 : PySem.W.nsIn K mainGlobals "_law_told" = some (some (.ref f17)))
    (l17 : K.lookup f17 = some ⟨oc17, od17, .func (PySem.W.fnOf "_law_told" "_law_told" (defArgs s__law_told) (defBody s__law_told) (defScope s__law_told) .none kV17 dc17 pm17 an17 cd17 ct17), sl17⟩)
    (c17 : PySem.W.codeIn K cd17 "_law_told" = true) (k17 : PySem.W.keepIn K (.ref f17) = true)
    {f18 : Addr} {od18 an18 : Option Addr} {sl18 : Array (Option Value)} {oc18 kV18 dc18 pm18 cd18 ct18 : Value}
    (a18 : PySem.W.nsIn K mainGlobals "_law_summed" = some (some (.ref f18)))
    (l18 : K.lookup f18 = some ⟨oc18, od18, .func (PySem.W.fnOf "_law_summed" "_law_summed" (defArgs s__law_summed) (defBody s__law_summed) (defScope s__law_summed) .none kV18 dc18 pm18 an18 cd18 ct18), sl18⟩)
    (c18 : PySem.W.codeIn K cd18 "_law_summed" = true) (k18 : PySem.W.keepIn K (.ref f18) = true)
    {f19 : Addr} {od19 an19 : Option Addr} {sl19 : Array (Option Value)} {oc19 kV19 dc19 pm19 cd19 ct19 : Value}
    (a19 : PySem.W.nsIn K mainGlobals "law" = some (some (.ref f19)))
    (l19 : K.lookup f19 = some ⟨oc19, od19, .func (PySem.W.fnOf "law" "law" (defArgs s_law) (defBody s_law) (defScope s_law) .none kV19 dc19 pm19 an19 cd19 ct19), sl19⟩)
    (c19 : PySem.W.codeIn K cd19 "law" = true) (k19 : PySem.W.keepIn K (.ref f19) = true)
    (z_abs : PySem.W.nsIn K mainGlobals "abs" = some none)
    (z_bool : PySem.W.nsIn K mainGlobals "bool" = some none)
    (z_dict : PySem.W.nsIn K mainGlobals "dict" = some none)
    (z_int : PySem.W.nsIn K mainGlobals "int" = some none)
    (z_isinstance : PySem.W.nsIn K mainGlobals "isinstance" = some none)
    (z_len : PySem.W.nsIn K mainGlobals "len" = some none)
    (z_max : PySem.W.nsIn K mainGlobals "max" = some none)
    (z_min : PySem.W.nsIn K mainGlobals "min" = some none)
    (z_range : PySem.W.nsIn K mainGlobals "range" = some none)
    (z_sorted : PySem.W.nsIn K mainGlobals "sorted" = some none)
    (z_str : PySem.W.nsIn K mainGlobals "str" = some none)
    (z_tuple : PySem.W.nsIn K mainGlobals "tuple" = some none)
    (z_zip : PySem.W.nsIn K mainGlobals "zip" = some none) :
    ∃ fd : FuncData, (∀ (s : Shared) (v : Value), BindsTo s fd ⟨[v], []⟩ [("script", v)]) ∧ ∀ base : Heap, K.In base → base.Ns mainGlobals mg → FnOk l.prog w K mg base CX0 lv_law fa fd ["script"] (lSp K S_law) := by
  have e := hfa.symm.trans (PySem.W.mg_of X G a19)
  cases e
  have T : Nms mg := ⟨PySem.W.mg_none_of X G z_abs, PySem.W.mg_none_of X G z_bool, PySem.W.mg_none_of X G z_dict, PySem.W.mg_none_of X G z_int, PySem.W.mg_none_of X G z_isinstance, PySem.W.mg_none_of X G z_len, PySem.W.mg_none_of X G z_max, PySem.W.mg_none_of X G z_min, PySem.W.mg_none_of X G z_range, PySem.W.mg_none_of X G z_sorted, PySem.W.mg_none_of X G z_str, PySem.W.mg_none_of X G z_tuple, PySem.W.mg_none_of X G z_zip⟩
  have F0 := fun_mk (st := s_box_of) l0 c0 k0
  have b0 := F0.binds (ps := ["plan", "room"]) fun _ _ _ _ _ _ us hl => match us, hl with | [_, _], _ => rfl
  have F1 := fun_mk (st := s_share_of) l1 c1 k1
  have b1 := F1.binds (ps := ["plan", "one", "other"]) fun _ _ _ _ _ _ us hl => match us, hl with | [_, _, _], _ => rfl
  have F2 := fun_mk (st := s_box_table) l2 c2 k2
  have b2 := F2.binds (ps := ["plan"]) fun _ _ _ _ _ _ us hl => match us, hl with | [_], _ => rfl
  have F3 := fun_mk (st := s_stretch_of) l3 c3 k3
  have b3 := F3.binds (ps := ["one", "other"]) fun _ _ _ _ _ _ us hl => match us, hl with | [_, _], _ => rfl
  have F4 := fun_mk (st := s_off_measure) l4 c4 k4
  have b4 := F4.binds (ps := ["plan", "room", "side"]) fun _ _ _ _ _ _ us hl => match us, hl with | [_, _, _], _ => rfl
  have F5 := fun_mk (st := s_measure_of) l5 c5 k5
  have b5 := F5.binds (ps := ["plan", "size"]) fun _ _ _ _ _ _ us hl => match us, hl with | [_, _], _ => rfl
  have F6 := fun_mk (st := s_turned_plan) l6 c6 k6
  have b6 := F6.binds (ps := ["plan", "n"]) fun _ _ _ _ _ _ us hl => match us, hl with | [_, _], _ => rfl
  have F7 := fun_mk (st := s_mirrored_plan) l7 c7 k7
  have b7 := F7.binds (ps := ["plan"]) fun _ _ _ _ _ _ us hl => match us, hl with | [_], _ => rfl
  have F8 := fun_mk (st := s_scaled_plan) l8 c8 k8
  have b8 := F8.binds (ps := ["plan", "times"]) fun _ _ _ _ _ _ us hl => match us, hl with | [_, _], _ => rfl
  have F9 := fun_mk (st := s__law_tiler) l9 c9 k9
  have b9 := F9.binds (ps := ["script"]) fun _ _ _ _ _ _ us hl => match us, hl with | [_], _ => rfl
  have F10 := fun_mk (st := s__law_tile) l10 c10 k10
  have b10 := F10.binds (ps := ["tiler", "many"]) fun _ _ _ _ _ _ us hl => match us, hl with | [_, _], _ => rfl
  have F11 := fun_mk (st := s__law_cut) l11 c11 k11
  have b11 := F11.binds (ps := ["tiler", "low", "high", "taken"]) fun _ _ _ _ _ _ us hl => match us, hl with | [_, _, _, _], _ => rfl
  have F12 := fun_mk (st := s__law_boxes) l12 c12 k12
  have b12 := F12.binds (ps := ["tiler", "many"]) fun _ _ _ _ _ _ us hl => match us, hl with | [_, _], _ => rfl
  have F13 := fun_mk (st := s__law_plan) l13 c13 k13
  have b13 := F13.binds (ps := ["tiler", "many"]) fun _ _ _ _ _ _ us hl => match us, hl with | [_, _], _ => rfl
  have F14 := fun_mk (st := s__law_share) l14 c14 k14
  have b14 := F14.binds (ps := ["one", "other"]) fun _ _ _ _ _ _ us hl => match us, hl with | [_, _], _ => rfl
  have F15 := fun_mk (st := s__law_moved) l15 c15 k15
  have b15 := F15.binds (ps := ["plan", "mirrored", "quarters", "times"]) fun _ _ _ _ _ _ us hl => match us, hl with | [_, _, _, _], _ => rfl
  have F16 := fun_mk (st := s__law_same) l16 c16 k16
  have b16 := F16.binds (ps := ["told", "due"]) fun _ _ _ _ _ _ us hl => match us, hl with | [_, _], _ => rfl
  have F17 := fun_mk (st := s__law_told) l17 c17 k17
  have b17 := F17.binds (ps := ["number", "due"]) fun _ _ _ _ _ _ us hl => match us, hl with | [_, _], _ => rfl
  have F18 := fun_mk (st := s__law_summed) l18 c18 k18
  have b18 := F18.binds (ps := ["tiler", "plan", "few"]) fun _ _ _ _ _ _ us hl => match us, hl with | [_, _, _], _ => rfl
  have F19 := fun_mk (st := s_law) l19 c19 k19
  have b19 := F19.binds (ps := ["script"]) fun _ _ _ _ _ _ us hl => match us, hl with | [_], _ => rfl
  refine ⟨PySem.W.fnOf "law" "law" (defArgs s_law) (defBody s_law) (defScope s_law) .none kV19 dc19 pm19 an19 cd19 ct19, fun s v => .of_eq rfl, fun base _ _ => ?_⟩
  have C2 : Callee l.prog w K mg base "box_table" lv_box_table ["plan"] S_box_table := ⟨f2, _, ok_box_table T { none := True.intro } F2, PySem.W.mg_of X G a2, k2, b2⟩
  have C3 : Callee l.prog w K mg base "stretch_of" lv_stretch_of ["one", "other"] S_stretch_of := ⟨f3, _, ok_stretch_of T { none := True.intro } F3, PySem.W.mg_of X G a3, k3, b3⟩
  have C6 : Callee l.prog w K mg base "turned_plan" lv_turned_plan ["plan", "n"] S_turned_plan := ⟨f6, _, ok_turned_plan T { none := True.intro } F6, PySem.W.mg_of X G a6, k6, b6⟩
  have C7 : Callee l.prog w K mg base "mirrored_plan" lv_mirrored_plan ["plan"] S_mirrored_plan := ⟨f7, _, ok_mirrored_plan T { none := True.intro } F7, PySem.W.mg_of X G a7, k7, b7⟩
  have C8 : Callee l.prog w K mg base "scaled_plan" lv_scaled_plan ["plan", "times"] S_scaled_plan := ⟨f8, _, ok_scaled_plan T { none := True.intro } F8, PySem.W.mg_of X G a8, k8, b8⟩
  have C9 : Callee l.prog w K mg base "_law_tiler" lv__law_tiler ["script"] S__law_tiler := ⟨f9, _, ok__law_tiler T { none := True.intro } F9, PySem.W.mg_of X G a9, k9, b9⟩
  have C10 : Callee l.prog w K mg base "_law_tile" lv__law_tile ["tiler", "many"] S__law_tile := ⟨f10, _, ok__law_tile T { none := True.intro } F10, PySem.W.mg_of X G a10, k10, b10⟩
  have C14 : Callee l.prog w K mg base "_law_share" lv__law_share ["one", "other"] S__law_share := ⟨f14, _, ok__law_share T { none := True.intro } F14, PySem.W.mg_of X G a14, k14, b14⟩
  have C15 : Callee l.prog w K mg base "_law_moved" lv__law_moved ["plan", "mirrored", "quarters", "times"] S__law_moved := ⟨f15, _, ok__law_moved T { none := True.intro } F15, PySem.W.mg_of X G a15, k15, b15⟩
  have C17 : Callee l.prog w K mg base "_law_told" lv__law_told ["number", "due"] S__law_told := ⟨f17, _, ok__law_told T { none := True.intro } F17, PySem.W.mg_of X G a17, k17, b17⟩
  have C0 : Callee l.prog w K mg base "box_of" lv_box_of ["plan", "room"] S_box_of := ⟨f0, _, ok_box_of T { box_table := C2 } F0, PySem.W.mg_of X G a0, k0, b0⟩
  have C1 : Callee l.prog w K mg base "share_of" lv_share_of ["plan", "one", "other"] S_share_of := ⟨f1, _, ok_share_of T { box_table := C2, stretch_of := C3 } F1, PySem.W.mg_of X G a1, k1, b1⟩
  have C11 : Callee l.prog w K mg base "_law_cut" lv__law_cut ["tiler", "low", "high", "taken"] S__law_cut := ⟨f11, _, ok__law_cut T { _law_tile := C10 } F11, PySem.W.mg_of X G a11, k11, b11⟩
  have C4 : Callee l.prog w K mg base "off_measure" lv_off_measure ["plan", "room", "side"] S_off_measure := ⟨f4, _, ok_off_measure T { box_of := C0 } F4, PySem.W.mg_of X G a4, k4, b4⟩
  have C12 : Callee l.prog w K mg base "_law_boxes" lv__law_boxes ["tiler", "many"] S__law_boxes := ⟨f12, _, ok__law_boxes T { _law_cut := C11, _law_tile := C10 } F12, PySem.W.mg_of X G a12, k12, b12⟩
  have C5 : Callee l.prog w K mg base "measure_of" lv_measure_of ["plan", "size"] S_measure_of := ⟨f5, _, ok_measure_of T { box_of := C0, off_measure := C4, share_of := C1 } F5, PySem.W.mg_of X G a5, k5, b5⟩
  have C13 : Callee l.prog w K mg base "_law_plan" lv__law_plan ["tiler", "many"] S__law_plan := ⟨f13, _, ok__law_plan T { _law_boxes := C12, _law_tile := C10 } F13, PySem.W.mg_of X G a13, k13, b13⟩
  have C16 : Callee l.prog w K mg base "_law_same" lv__law_same ["told", "due"] S__law_same := ⟨f16, _, ok__law_same T F16 (PySem.W.mg_of X G a16) k16 b16 5, PySem.W.mg_of X G a16, k16, b16⟩
  have C18 : Callee l.prog w K mg base "_law_summed" lv__law_summed ["tiler", "plan", "few"] S__law_summed := ⟨f18, _, ok__law_summed T { _law_same := C16, _law_share := C14, _law_tile := C10, _law_told := C17, box_of := C0, measure_of := C5, share_of := C1 } F18, PySem.W.mg_of X G a18, k18, b18⟩
  exact ok_law T { _law_moved := C15, _law_plan := C13, _law_same := C16, _law_summed := C18, _law_tile := C10, _law_tiler := C9, mirrored_plan := C7, scaled_plan := C8, turned_plan := C6 } F19
end K53
open PySem PySem.W PyProof.Rows
set_option maxHeartbeats 0 in
theorem PySem.Challenge.cw_wallsaswished_k53_whole_rims_and_areas_holds : PySem.Challenge.rw_wallsaswished_k53_whole_rims_and_areas.Holds := by
  w_on; o_law; k_head; (case hw => w_witness2)
  k_fill
  refine L2.walk_ofK (l := PySem.Challenge.rw_wallsaswished_k53_whole_rims_and_areas) (n := 63) (k := K53.lv_law) (x := "script") (CX := L2.CX0) (sp := fun K => DD.lSp K K53.S_law) rfl (by decide) rfl ⟨rfl, by decide, by decide⟩ (fun w h Y => PySem.W.kIn_of Y) ?F K53.start_law (fun _ _ _ _ h => h)
  case F =>
    intro w mg fa h KX G hmg
    refine' K53.all_mk KX G hmg ?a0 ?l0 ?c0 ?k0 ?a1 ?l1 ?c1 ?k1 ?a2 ?l2 ?c2 ?k2 ?a3 ?l3 ?c3 ?k3 ?a4 ?l4 ?c4 ?k4 ?a5 ?l5 ?c5 ?k5 ?a6 ?l6 ?c6 ?k6 ?a7 ?l7 ?c7 ?k7 ?a8 ?l8 ?c8 ?k8 ?a9 ?l9 ?c9 ?k9 ?a10 ?l10 ?c10 ?k10 ?a11 ?l11 ?c11 ?k11 ?a12 ?l12 ?c12 ?k12 ?a13 ?l13 ?c13 ?k13 ?a14 ?l14 ?c14 ?k14 ?a15 ?l15 ?c15 ?k15 ?a16 ?l16 ?c16 ?k16 ?a17 ?l17 ?c17 ?k17 ?a18 ?l18 ?c18 ?k18 ?a19 ?l19 ?c19 ?k19 ?z_abs ?z_bool ?z_dict ?z_int ?z_isinstance ?z_len ?z_max ?z_min ?z_range ?z_sorted ?z_str ?z_tuple ?z_zip
    (case a0 => k_is); (case l0 => k_is); (case c0 => k_is); (case k0 => k_is); (case a1 => k_is); (case l1 => k_is); (case c1 => k_is); (case k1 => k_is); (case a2 => k_is); (case l2 => k_is); (case c2 => k_is); (case k2 => k_is); (case a3 => k_is); (case l3 => k_is); (case c3 => k_is); (case k3 => k_is); (case a4 => k_is); (case l4 => k_is); (case c4 => k_is); (case k4 => k_is); (case a5 => k_is); (case l5 => k_is); (case c5 => k_is); (case k5 => k_is); (case a6 => k_is); (case l6 => k_is); (case c6 => k_is); (case k6 => k_is); (case a7 => k_is); (case l7 => k_is); (case c7 => k_is); (case k7 => k_is); (case a8 => k_is); (case l8 => k_is); (case c8 => k_is); (case k8 => k_is); (case a9 => k_is); (case l9 => k_is); (case c9 => k_is); (case k9 => k_is); (case a10 => k_is); (case l10 => k_is); (case c10 => k_is); (case k10 => k_is); (case a11 => k_is); (case l11 => k_is); (case c11 => k_is); (case k11 => k_is); (case a12 => k_is); (case l12 => k_is); (case c12 => k_is); (case k12 => k_is); (case a13 => k_is); (case l13 => k_is); (case c13 => k_is); (case k13 => k_is); (case a14 => k_is); (case l14 => k_is); (case c14 => k_is); (case k14 => k_is); (case a15 => k_is); (case l15 => k_is); (case c15 => k_is); (case k15 => k_is); (case a16 => k_is); (case l16 => k_is); (case c16 => k_is); (case k16 => k_is); (case a17 => k_is); (case l17 => k_is); (case c17 => k_is); (case k17 => k_is); (case a18 => k_is); (case l18 => k_is); (case c18 => k_is); (case k18 => k_is); (case a19 => k_is); (case l19 => k_is); (case c19 => k_is); (case k19 => k_is); (case z_abs => k_is); (case z_bool => k_is); (case z_dict => k_is); (case z_int => k_is); (case z_isinstance => k_is); (case z_len => k_is); (case z_max => k_is); (case z_min => k_is); (case z_range => k_is); (case z_sorted => k_is); (case z_str => k_is); (case z_tuple => k_is); (case z_zip => k_is)
end
