import PyProof.Rows.All
import Wide.All
import OpenK.AllK
import Wide.FinOn
import HandS.ForMost
import HandS.Wide
import HandS.Gcd
import HandS.Zip
import HandS.Style
import HandS.TupAny
import HandS.TupMul
import HandS.Deep
import HandS.Conv
import HandS.Codes
import HandS.TryOnly
import HandS.WordsDict
import HandS.SortInts
import HandS.IsInst
import PySem.Challenge.RW_chancesmet_k58_whole_bold_play_without_e
section
set_option Elab.async false
set_option linter.all false
set_option maxRecDepth 100000
set_option maxHeartbeats 4000000
/-! Dn: a plain semantics of a small Python (data as trees, lists and dicts by owners), sound over the hand layer -/
namespace Dn
open PySem L2

abbrev D := PyData
abbrev AS := Addr → Prop

def kD : Key → D
  | .inl i => .int i
  | .inr s => .str s

/-! ### data held in the heap: frozen (all addresses in F), owned -/
/-- the address holds u for good -/
def At (F : AS) (H : Hp) (a : Addr) (u : HO) : Prop := F a ∧ H a = some u
def KTup (K : PySem.W.Frag) (a : Addr) (xs : List V) : Prop :=
  ∃ (o : Obj) (its : Array Value) (n : Nat), K.lookup a = some o ∧ o.cls = .type "tuple" ∧ o.data = .seq its n ∧ its.size ≤ sizeLine ∧ Vals xs its.toList
mutual
inductive Fz (K : PySem.W.Frag) (F : AS) (H : Hp) : V → D → Prop
  | non : Fz K F H .non .none
  | bl (b : Bool) : Fz K F H (.bl b) (.bool b)
  | int (i : Int) : Fz K F H (.int i) (.int i)
  | str (x : Str) : Fz K F H (.str x) (.str x)
  | tup {a : Addr} {xs : List V} {ds : List D} : At F H a (.tup xs) → FzL K F H xs ds → Fz K F H (.ref a) (.tuple ds)
  | tupK {a : Addr} {xs : List V} {ds : List D} : KTup K a xs → FzL K F H xs ds → Fz K F H (.ref a) (.tuple ds)
  | lst {a : Addr} {xs : List V} {ds : List D} : At F H a (.lst xs) → FzL K F H xs ds → Fz K F H (.ref a) (.list ds)
  | dK {a : Addr} {kvs : List (Key × V)} {ds : List (D × D)} : At F H a (.dK kvs) → FzK K F H kvs ds → Fz K F H (.ref a) (.dict ds)
inductive FzL (K : PySem.W.Frag) (F : AS) (H : Hp) : List V → List D → Prop
  | nil : FzL K F H [] []
  | cons {x : V} {d : D} {xs : List V} {ds : List D} : Fz K F H x d → FzL K F H xs ds → FzL K F H (x :: xs) (d :: ds)
inductive FzK (K : PySem.W.Frag) (F : AS) (H : Hp) : List (Key × V) → List (D × D) → Prop
  | nil : FzK K F H [] []
  | cons {k : Key} {x : V} {d : D} {kvs : List (Key × V)} {ds : List (D × D)} : Fz K F H x d → FzK K F H kvs ds → FzK K F H ((k, x) :: kvs) ((kD k, d) :: ds)
end
def isObjD : D → Bool
  | .list _ => true
  | .dict _ => true
  | _ => false
mutual
/-- n levels of lists and dicts are owned: the addresses of O -/
inductive Ow (K : PySem.W.Frag) (F : AS) (H : Hp) : Nat → V → D → AS → Prop
  | fz {n : Nat} {x : V} {d : D} {O : AS} : Fz K F H x d → (n = 0 ∨ isObjD d = false) → (∀ a, ¬ O a) → Ow K F H n x d O
  | lst {n : Nat} {a : Addr} {xs : List V} {ds : List D} {O O' : AS} : H a = some (.lst xs) → ¬ F a → OwL K F H n xs ds O → ¬ O a → (∀ b, O' b ↔ (b = a ∨ O b)) → Ow K F H (n + 1) (.ref a) (.list ds) O'
  | dK {n : Nat} {a : Addr} {kvs : List (Key × V)} {ds : List (D × D)} {O O' : AS} : H a = some (.dK kvs) → ¬ F a → OwK K F H n kvs ds O → ¬ O a → (∀ b, O' b ↔ (b = a ∨ O b)) → Ow K F H (n + 1) (.ref a) (.dict ds) O'
inductive OwL (K : PySem.W.Frag) (F : AS) (H : Hp) : Nat → List V → List D → AS → Prop
  | nil {n : Nat} {O : AS} : (∀ a, ¬ O a) → OwL K F H n [] [] O
  | cons {n : Nat} {x : V} {d : D} {xs : List V} {ds : List D} {O O1 O2 : AS} : Ow K F H n x d O1 → OwL K F H n xs ds O2 → (∀ a, O1 a → O2 a → False) → (∀ a, O a ↔ (O1 a ∨ O2 a)) → OwL K F H n (x :: xs) (d :: ds) O
inductive OwK (K : PySem.W.Frag) (F : AS) (H : Hp) : Nat → List (Key × V) → List (D × D) → AS → Prop
  | nil {n : Nat} {O : AS} : (∀ a, ¬ O a) → OwK K F H n [] [] O
  | cons {n : Nat} {k : Key} {x : V} {d : D} {kvs : List (Key × V)} {ds : List (D × D)} {O O1 O2 : AS} : Ow K F H n x d O1 → OwK K F H n kvs ds O2 → (∀ a, O1 a → O2 a → False) → (∀ a, O a ↔ (O1 a ∨ O2 a)) → OwK K F H n ((k, x) :: kvs) ((kD k, d) :: ds) O
end

section
variable {K : PySem.W.Frag} {F F' : AS} {H H' : Hp}
theorem At.mono {a : Addr} {u : HO} (hF : ∀ a, F a → F' a) (hk : ∀ a o, F a → H a = some o → H' a = some o) (h : At F H a u) : At F' H' a u := by
  exact ⟨hF _ h.1, hk _ _ h.1 h.2⟩
mutual
theorem Fz.mono (hF : ∀ a, F a → F' a) (hk : ∀ a o, F a → H a = some o → H' a = some o) : ∀ {x : V} {d : D}, Fz K F H x d → Fz K F' H' x d
  | _, _, .non => .non
  | _, _, .bl b => .bl b
  | _, _, .int i => .int i
  | _, _, .str x => .str x
  | _, _, .tup h t => .tup (h.mono hF hk) (FzL.mono hF hk t)
  | _, _, .tupK h t => .tupK h (FzL.mono hF hk t)
  | _, _, .lst h t => .lst (h.mono hF hk) (FzL.mono hF hk t)
  | _, _, .dK h t => .dK (h.mono hF hk) (FzK.mono hF hk t)
theorem FzL.mono (hF : ∀ a, F a → F' a) (hk : ∀ a o, F a → H a = some o → H' a = some o) : ∀ {xs : List V} {ds : List D}, FzL K F H xs ds → FzL K F' H' xs ds
  | _, _, .nil => .nil
  | _, _, .cons h t => .cons (Fz.mono hF hk h) (FzL.mono hF hk t)
theorem FzK.mono (hF : ∀ a, F a → F' a) (hk : ∀ a o, F a → H a = some o → H' a = some o) : ∀ {xs : List (Key × V)} {ds : List (D × D)}, FzK K F H xs ds → FzK K F' H' xs ds
  | _, _, .nil => .nil
  | _, _, .cons h t => .cons (Fz.mono hF hk h) (FzK.mono hF hk t)
end
mutual
theorem Ow.mono (hF : ∀ a, F a → F' a) (hk : ∀ a o, F a → H a = some o → H' a = some o) : ∀ {n : Nat} {x : V} {d : D} {O : AS}, Ow K F H n x d O → (∀ a o, O a → H a = some o → H' a = some o) → (∀ a, O a → ¬ F' a) → Ow K F' H' n x d O
  | _, _, _, _, .fz h c e, _, _ => .fz (h.mono hF hk) c e
  | _, _, _, _, .lst h _ t e i, ho, hn => .lst (ho _ _ ((i _).mpr (.inl rfl)) h) (hn _ ((i _).mpr (.inl rfl))) (OwL.mono hF hk t (fun a o z => ho a o ((i _).mpr (.inr z))) fun a z => hn a ((i _).mpr (.inr z))) e i
  | _, _, _, _, .dK h _ t e i, ho, hn => .dK (ho _ _ ((i _).mpr (.inl rfl)) h) (hn _ ((i _).mpr (.inl rfl))) (OwK.mono hF hk t (fun a o z => ho a o ((i _).mpr (.inr z))) fun a z => hn a ((i _).mpr (.inr z))) e i
theorem OwL.mono (hF : ∀ a, F a → F' a) (hk : ∀ a o, F a → H a = some o → H' a = some o) : ∀ {n : Nat} {xs : List V} {ds : List D} {O : AS}, OwL K F H n xs ds O → (∀ a o, O a → H a = some o → H' a = some o) → (∀ a, O a → ¬ F' a) → OwL K F' H' n xs ds O
  | _, _, _, _, .nil e, _, _ => .nil e
  | _, _, _, _, .cons h t j i, ho, hn => .cons (Ow.mono hF hk h (fun a o z => ho a o ((i _).mpr (.inl z))) fun a z => hn a ((i _).mpr (.inl z))) (OwL.mono hF hk t (fun a o z => ho a o ((i _).mpr (.inr z))) fun a z => hn a ((i _).mpr (.inr z))) j i
theorem OwK.mono (hF : ∀ a, F a → F' a) (hk : ∀ a o, F a → H a = some o → H' a = some o) : ∀ {n : Nat} {xs : List (Key × V)} {ds : List (D × D)} {O : AS}, OwK K F H n xs ds O → (∀ a o, O a → H a = some o → H' a = some o) → (∀ a, O a → ¬ F' a) → OwK K F' H' n xs ds O
  | _, _, _, _, .nil e, _, _ => .nil e
  | _, _, _, _, .cons h t j i, ho, hn => .cons (Ow.mono hF hk h (fun a o z => ho a o ((i _).mpr (.inl z))) fun a z => hn a ((i _).mpr (.inl z))) (OwK.mono hF hk t (fun a o z => ho a o ((i _).mpr (.inr z))) fun a z => hn a ((i _).mpr (.inr z))) j i
end
/- what is owned is frozen -/
mutual
theorem Ow.freeze (hF : ∀ a, F a → F' a) : ∀ {n : Nat} {x : V} {d : D} {O : AS}, Ow K F H n x d O → (∀ a, O a → F' a) → Fz K F' H x d
  | _, _, _, _, .fz h _ _, _ => h.mono hF fun _ _ _ e => e
  | _, _, _, _, .lst h _ t _ i, ho => .lst ⟨ho _ ((i _).mpr (.inl rfl)), h⟩ (OwL.freeze hF t fun a z => ho a ((i _).mpr (.inr z)))
  | _, _, _, _, .dK h _ t _ i, ho => .dK ⟨ho _ ((i _).mpr (.inl rfl)), h⟩ (OwK.freeze hF t fun a z => ho a ((i _).mpr (.inr z)))
theorem OwL.freeze (hF : ∀ a, F a → F' a) : ∀ {n : Nat} {xs : List V} {ds : List D} {O : AS}, OwL K F H n xs ds O → (∀ a, O a → F' a) → FzL K F' H xs ds
  | _, _, _, _, .nil _, _ => .nil
  | _, _, _, _, .cons h t _ i, ho => .cons (Ow.freeze hF h fun a z => ho a ((i _).mpr (.inl z))) (OwL.freeze hF t fun a z => ho a ((i _).mpr (.inr z)))
theorem OwK.freeze (hF : ∀ a, F a → F' a) : ∀ {n : Nat} {xs : List (Key × V)} {ds : List (D × D)} {O : AS}, OwK K F H n xs ds O → (∀ a, O a → F' a) → FzK K F' H xs ds
  | _, _, _, _, .nil _, _ => .nil
  | _, _, _, _, .cons h t _ i, ho => .cons (Ow.freeze hF h fun a z => ho a ((i _).mpr (.inl z))) (OwK.freeze hF t fun a z => ho a ((i _).mpr (.inr z)))
end
mutual
theorem Ow.alloc : ∀ {n : Nat} {x : V} {d : D} {O : AS}, Ow K F H n x d O → ∀ a, O a → (∃ o, H a = some o) ∧ ¬ F a
  | _, _, _, _, .fz _ _ e, a, h => (e a h).elim
  | _, _, _, _, .lst h f t _ i, a, z => by
    rcases (i a).mp z with r | r
    · subst r; exact ⟨⟨_, h⟩, f⟩
    · exact OwL.alloc t a r
  | _, _, _, _, .dK h f t _ i, a, z => by
    rcases (i a).mp z with r | r
    · subst r; exact ⟨⟨_, h⟩, f⟩
    · exact OwK.alloc t a r
theorem OwL.alloc : ∀ {n : Nat} {xs : List V} {ds : List D} {O : AS}, OwL K F H n xs ds O → ∀ a, O a → (∃ o, H a = some o) ∧ ¬ F a
  | _, _, _, _, .nil e, a, h => (e a h).elim
  | _, _, _, _, .cons h t _ i, a, z => ((i a).mp z).elim (fun r => Ow.alloc h a r) fun r => OwL.alloc t a r
theorem OwK.alloc : ∀ {n : Nat} {xs : List (Key × V)} {ds : List (D × D)} {O : AS}, OwK K F H n xs ds O → ∀ a, O a → (∃ o, H a = some o) ∧ ¬ F a
  | _, _, _, _, .nil e, a, h => (e a h).elim
  | _, _, _, _, .cons h t _ i, a, z => ((i a).mp z).elim (fun r => Ow.alloc h a r) fun r => OwK.alloc t a r
end
theorem Ow.of_fz {x : V} {d : D} (h : Fz K F H x d) : Ow K F H 0 x d fun _ => False := .fz h (.inl rfl) fun _ z => z
theorem OwL.fz0 : ∀ {n : Nat} {xs : List V} {ds : List D} {O : AS}, n = 0 → OwL K F H n xs ds O → FzL K F H xs ds ∧ ∀ a, ¬ O a
  | _, _, _, _, _, .nil e => ⟨.nil, e⟩
  | _, _, _, _, e0, .cons h t _ i => by
    obtain ⟨h1, h2⟩ := OwL.fz0 e0 t
    subst e0
    cases h with
    | fz h3 _ h4 => exact ⟨.cons h3 h1, fun a z => ((i a).mp z).elim (h4 a) (h2 a)⟩
theorem OwK.fz0 : ∀ {n : Nat} {xs : List (Key × V)} {ds : List (D × D)} {O : AS}, n = 0 → OwK K F H n xs ds O → FzK K F H xs ds ∧ ∀ a, ¬ O a
  | _, _, _, _, _, .nil e => ⟨.nil, e⟩
  | _, _, _, _, e0, .cons h t _ i => by
    obtain ⟨h1, h2⟩ := OwK.fz0 e0 t
    subst e0
    cases h with
    | fz h3 _ h4 => exact ⟨.cons h3 h1, fun a z => ((i a).mp z).elim (h4 a) (h2 a)⟩
theorem FzL.owL : ∀ {xs : List V} {ds : List D}, FzL K F H xs ds → OwL K F H 0 xs ds fun _ => False
  | _, _, .nil => .nil fun _ z => z
  | _, _, .cons h t => .cons (.of_fz h) (FzL.owL t) (fun _ z _ => z) (by intro a; simp)
theorem FzK.owK : ∀ {xs : List (Key × V)} {ds : List (D × D)}, FzK K F H xs ds → OwK K F H 0 xs ds fun _ => False
  | _, _, .nil => .nil fun _ z => z
  | _, _, .cons h t => .cons (.of_fz h) (FzK.owK t) (fun _ z _ => z) (by intro a; simp)
theorem FzL.length : ∀ {xs : List V} {ds : List D}, FzL K F H xs ds → xs.length = ds.length
  | _, _, .nil => rfl
  | _, _, .cons _ t => congrArg (· + 1) (FzL.length t)
theorem FzL.get : ∀ {xs : List V} {ds : List D} {i : Nat} {d : D}, FzL K F H xs ds → ds[i]? = some d → ∃ x, xs[i]? = some x ∧ Fz K F H x d
  | _, _, _, _, .nil, e => by simp at e
  | _, _, 0, _, .cons h _, e => by simp at e; subst e; exact ⟨_, rfl, h⟩
  | _, _, i + 1, _, .cons _ t, e => by
    obtain ⟨x, h1, h2⟩ := FzL.get (i := i) t (by simpa using e)
    exact ⟨x, by simpa using h1, h2⟩
theorem FzL.getV : ∀ {xs : List V} {ds : List D} {i : Nat} {x : V}, FzL K F H xs ds → xs[i]? = some x → ∃ d, ds[i]? = some d ∧ Fz K F H x d
  | _, _, _, _, .nil, e => by simp at e
  | _, _, 0, _, .cons h _, e => by simp at e; subst e; exact ⟨_, rfl, h⟩
  | _, _, i + 1, _, .cons _ t, e => by
    obtain ⟨x, h1, h2⟩ := FzL.getV (i := i) t (by simpa using e)
    exact ⟨x, by simpa using h1, h2⟩
theorem FzL.append : ∀ {xs ys : List V} {ds es : List D}, FzL K F H xs ds → FzL K F H ys es → FzL K F H (xs ++ ys) (ds ++ es)
  | _, _, _, _, .nil, s => s
  | _, _, _, _, .cons h t, s => .cons h (FzL.append t s)
theorem FzL.set : ∀ {xs : List V} {ds : List D} {x : V} {d : D} (i : Nat), FzL K F H xs ds → Fz K F H x d → FzL K F H (xs.set i x) (ds.set i d)
  | _, _, _, _, _, .nil, _ => .nil
  | _, _, _, _, 0, .cons _ t, h => .cons h t
  | _, _, _, _, i + 1, .cons g t, h => .cons g (FzL.set i t h)
theorem FzL.take : ∀ {xs : List V} {ds : List D} (i : Nat), FzL K F H xs ds → FzL K F H (xs.take i) (ds.take i)
  | _, _, 0, _ => .nil
  | _, _, _ + 1, .nil => .nil
  | _, _, i + 1, .cons h t => .cons h (FzL.take i t)
theorem FzL.drop : ∀ {xs : List V} {ds : List D} (i : Nat), FzL K F H xs ds → FzL K F H (xs.drop i) (ds.drop i)
  | _, _, 0, h => h
  | _, _, _ + 1, .nil => .nil
  | _, _, i + 1, .cons _ t => FzL.drop i t
theorem FzL.rev {xs : List V} {ds : List D} (h : FzL K F H xs ds) : FzL K F H xs.reverse ds.reverse := by
  have go : ∀ {xs : List V} {ds : List D}, FzL K F H xs ds → FzL K F H xs.reverse ds.reverse := by
    intro xs
    induction xs with
    | nil => intro ds h; cases h; exact .nil
    | cons x r ih =>
      intro ds h
      cases h with
      | cons h t =>
        rw [List.reverse_cons, List.reverse_cons]
        exact (ih t).append (.cons h .nil)
  exact go h
end
end Dn
end
section
set_option Elab.async false
set_option linter.all false
set_option maxRecDepth 100000
set_option maxHeartbeats 4000000
namespace Dn
open PySem L2

structure Val where
  d : D
  n : Nat
abbrev Ev := List (Option Val)
abbrev RE := Ev → Option (Val × Ev)
abbrev RT := Ev → Option (Bool × Ev)
inductive Fl where
  | nx | rt (v : Val) | bk | ct
abbrev RS := Ev → Option (Fl × Ev)
abbrev fz (d : D) : Val := ⟨d, 0⟩

def Tot (O : Nat → AS) : AS := fun a => ∃ i, O i a
structure Sta (K : PySem.W.Frag) (J : List Nat) (σ0 : St) (F : AS) (H : Hp) (env : Ev) (σ : St) (O : Nat → AS) : Prop where
  slot : ∀ i v, env[i]? = some (some v) → ∃ x, σ[i]? = some (some x) ∧ Ow K F H v.n x v.d (O i)
  emp : ∀ i a, O i a → ∃ v, env[i]? = some (some v)
  disj : ∀ i j a, O i a → O j a → i = j
  al : ∀ a, F a → ∃ o, H a = some o
  pin : ∀ j ∈ J, σ[j]? = σ0[j]?
  len : σ.length = env.length
structure Stp (F : AS) (H : Hp) (L : AS) (F' : AS) (H' : Hp) (L' : AS) : Prop where
  mono : ∀ a, F a → F' a
  grow : ∀ a, F' a → F a ∨ L a ∨ H a = none
  own : ∀ a, L' a → L a ∨ H a = none
  keep : ∀ a o, H a = some o → ¬ L a → H' a = some o
  there : ∀ a o, H a = some o → ∃ o', H' a = some o'
theorem Stp.refl (F : AS) (H : Hp) (L L' : AS) (h : ∀ a, L' a → L a) : Stp F H L F H L' :=
  ⟨fun _ z => z, fun _ z => .inl z, fun a z => .inl (h a z), fun _ _ e _ => e, fun _ o e => ⟨o, e⟩⟩
theorem none_of_there {H H' : Hp} (h : ∀ a o, H a = some o → ∃ o', H' a = some o') {a : Addr} (e : H' a = none) : H a = none := by
  cases q : H a with
  | none => rfl
  | some o =>
    obtain ⟨o', q'⟩ := h a o q
    rw [e] at q'; cases q'
theorem Stp.trans {F F1 F2 : AS} {H H1 H2 : Hp} {L L1 M L2 : AS} (a : Stp F H L F1 H1 L1) (b : Stp F1 H1 M F2 H2 L2) (h : ∀ a, M a → L1 a) : Stp F H L F2 H2 L2 where
  mono := fun c z => b.mono c (a.mono c z)
  grow := fun c z => by
    rcases b.grow c z with z | z | z
    · exact a.grow c z
    · exact (a.own c (h c z)).elim (fun z => .inr (.inl z)) fun z => .inr (.inr z)
    · exact .inr (.inr (none_of_there a.there z))
  own := fun c z => by
    rcases b.own c z with z | z
    · exact a.own c (h c z)
    · exact .inr (none_of_there a.there z)
  keep := fun c o e n => b.keep c o (a.keep c o e n) fun z => by
    rcases a.own c (h c z) with z | z
    · exact n z
    · rw [z] at e; cases e
  there := fun c o e => by
    obtain ⟨o1, e1⟩ := a.there c o e
    exact b.there c o1 e1
/-- smaller at the end -/
theorem Stp.less {F F1 : AS} {H H1 : Hp} {L L1 L2 : AS} (a : Stp F H L F1 H1 L1) (h : ∀ a, L2 a → L1 a) : Stp F H L F1 H1 L2 :=
  ⟨a.mono, a.grow, fun c z => a.own c (h c z), a.keep, a.there⟩

section
variable {K : PySem.W.Frag} {J : List Nat} {σ0 : St} {F F' F1 F2 : AS} {H H' H1 H2 : Hp} {env env' env1 : Ev} {σ : St} {O O' O1 O2 : Nat → AS} {R R1 R2 L L1 L2 : AS}
theorem Sta.own (s : Sta K J σ0 F H env σ O) {a : Addr} (h : Tot O a) : (∃ o, H a = some o) ∧ ¬ F a := by
  obtain ⟨i, h⟩ := h
  obtain ⟨v, e⟩ := s.emp i a h
  obtain ⟨x, _, w⟩ := s.slot i v e
  exact w.alloc a h
/-- a temporary stands while the state goes on -/
theorem Ow.frame {n : Nat} {x : V} {d : D} (w : Ow K F H n x d R) (st : Stp F H L F' H' L') (hL : ∀ a, L a → ¬ F a) (hd : ∀ a, L a → R a → False) : Ow K F' H' n x d R :=
  w.mono st.mono (fun a o f e => st.keep a o e fun z => hL a z f) (fun a o r e => st.keep a o e fun z => hd a z r) fun a r f => by
    obtain ⟨⟨o, e⟩, nf⟩ := w.alloc a r
    rcases st.grow a f with z | z | z
    · exact nf z
    · exact hd a z r
    · rw [e] at z; cases z
theorem Fz.frame {x : V} {d : D} (w : Fz K F H x d) (st : Stp F H L F' H' L') (hL : ∀ a, L a → ¬ F a) : Fz K F' H' x d :=
  w.mono st.mono fun a o f e => st.keep a o e fun z => hL a z f
theorem FzL.frame {x : List V} {d : List D} (w : FzL K F H x d) (st : Stp F H L F' H' L') (hL : ∀ a, L a → ¬ F a) : FzL K F' H' x d :=
  w.mono st.mono fun a o f e => st.keep a o e fun z => hL a z f

/-! ### what is read at once: an object whose items are frozen -/
inductive Vw (K : PySem.W.Frag) (F : AS) (H : Hp) : V → D → Prop
  | fz {x : V} {d : D} : Fz K F H x d → Vw K F H x d
  | lst {a : Addr} {xs : List V} {ds : List D} : H a = some (.lst xs) → FzL K F H xs ds → Vw K F H (.ref a) (.list ds)
  | dK {a : Addr} {kvs : List (Key × V)} {ds : List (D × D)} : H a = some (.dK kvs) → FzK K F H kvs ds → Vw K F H (.ref a) (.dict ds)
theorem Ow.vw : ∀ {n : Nat} {x : V} {d : D}, n ≤ 1 → Ow K F H n x d R → Vw K F H x d
  | _, _, _, _, .fz h _ _ => .fz h
  | _, _, _, hn, .lst h _ t _ _ => .lst h (OwL.fz0 (by omega) t).1
  | _, _, _, hn, .dK h _ t _ _ => .dK h (OwK.fz0 (by omega) t).1

/-! ### operands -/
inductive Opd where
  /-- the name in slot i, looked at when the operation is done -/
  | nm (i : Nat)
  | ex (f : RE)
def has (env : Ev) (i : Nat) : Bool := match env[i]? with
  | some (some _) => true
  | _ => false
def r1 (o : Opd) (env : Ev) : Option (Sum Nat Val × Ev) := match o with
  | .nm i => if has env i then some (.inl i, env) else none
  | .ex f => (f env).map fun p => (.inr p.1, p.2)
def rN : List Opd → Ev → Option (List (Sum Nat Val) × Ev)
  | [], env => some ([], env)
  | o :: os, env => (r1 o env).bind fun p => (rN os p.2).map fun q => (p.1 :: q.1, q.2)
/-- the data at a slot, read at once -/
def look (v : Val) : Option D := if v.n ≤ 1 then some v.d else none
def at_ (env : Ev) (i : Nat) : Option Val := (env[i]?).join
def rs (p : Sum Nat Val) (env : Ev) : Option D := match p with
  | .inl i => (at_ env i).bind look
  | .inr v => look v
def rsN : List (Sum Nat Val) → Ev → Option (List D)
  | [], _ => some []
  | p :: ps, env => (rs p env).bind fun d => (rsN ps env).map fun ds => d :: ds
/-- an operation by data -/
def opN (o : List D → Option Val) (os : List Opd) : RE := fun env => (rN os env).bind fun p => (rsN p.1 p.2).bind fun ds => (o ds).map fun r => (r, p.2)

/-! ### readings -/
def PostE (K : PySem.W.Frag) (J : List Nat) (σ0 : St) (σ : St) (Q : VK) (F : AS) (H : Hp) (L : AS) : Option (Val × Ev) → Prop
  | none => False
  | some (v, env') => ∀ x F' H' O' R, Stp F H L F' H' (fun a => Tot O' a ∨ R a) → Sta K J σ0 F' H' env' σ O' → Ow K F' H' v.n x v.d R → (∀ a, Tot O' a → R a → False) → Q x H'
def rdE (K : PySem.W.Frag) (J : List Nat) (σ0 : St) (f : RE) : TE := fun σ H Q => ∃ F env O, Sta K J σ0 F H env σ O ∧ PostE K J σ0 σ Q F H (Tot O) (f env)
def PostT (K : PySem.W.Frag) (J : List Nat) (σ0 : St) (σ : St) (Q : Bool → Hp → Prop) (F : AS) (H : Hp) (L : AS) : Option (Bool × Ev) → Prop
  | none => False
  | some (b, env') => ∀ F' H' O', Stp F H L F' H' (Tot O') → Sta K J σ0 F' H' env' σ O' → Q b H'
def rdT (K : PySem.W.Frag) (J : List Nat) (σ0 : St) (f : RT) : TT := fun σ H Q => ∃ F env O, Sta K J σ0 F H env σ O ∧ PostT K J σ0 σ Q F H (Tot O) (f env)
def PostS (K : PySem.W.Frag) (J : List Nat) (σ0 : St) (Dn : Ends) (F : AS) (H : Hp) (L : AS) : Option (Fl × Ev) → Prop
  | none => False
  | some (.nx, env') => ∀ σ' F' H' O', Stp F H L F' H' (Tot O') → Sta K J σ0 F' H' env' σ' O' → Dn.nx σ' H'
  | some (.bk, env') => ∀ σ' F' H' O', Stp F H L F' H' (Tot O') → Sta K J σ0 F' H' env' σ' O' → Dn.bk σ' H'
  | some (.ct, env') => ∀ σ' F' H' O', Stp F H L F' H' (Tot O') → Sta K J σ0 F' H' env' σ' O' → Dn.ct σ' H'
  | some (.rt v, env') => ∀ x σ' F' H' O' R, Stp F H L F' H' (fun a => Tot O' a ∨ R a) → Sta K J σ0 F' H' env' σ' O' → Ow K F' H' v.n x v.d R → (∀ a, Tot O' a → R a → False) → Dn.rt x H'
def rdS (K : PySem.W.Frag) (J : List Nat) (σ0 : St) (f : RS) : TS := fun Dn σ H => ∃ F env O, Sta K J σ0 F H env σ O ∧ PostS K J σ0 Dn F H (Tot O) (f env)
def tO (K : PySem.W.Frag) (J : List Nat) (σ0 : St) : Opd → TE
  | .nm i => tVar i
  | .ex f => rdE K J σ0 f
def tOs (K : PySem.W.Frag) (J : List Nat) (σ0 : St) : List Opd → TA
  | [] => tNil
  | o :: os => tCons (tO K J σ0 o) (tOs K J σ0 os)
theorem PostE.after {Q : VK} {L1' : AS} : ∀ {r : Option (Val × Ev)}, PostE K J σ0 σ Q F H L r → Stp F H L F1 H1 L1 → (∀ a, L1' a → L1 a) → PostE K J σ0 σ Q F1 H1 L1' r
  | none, h, _, _ => h
  | some _, h, st, hl => fun x F' H' O' R st' s w d => h x F' H' O' R (st.trans st' hl) s w d
theorem PostT.after {Q : Bool → Hp → Prop} {L1' : AS} : ∀ {r : Option (Bool × Ev)}, PostT K J σ0 σ Q F H L r → Stp F H L F1 H1 L1 → (∀ a, L1' a → L1 a) → PostT K J σ0 σ Q F1 H1 L1' r
  | none, h, _, _ => h
  | some _, h, st, hl => fun F' H' O' st' s => h F' H' O' (st.trans st' hl) s
theorem PostS.after {Q : Ends} {L1' : AS} : ∀ {r : Option (Fl × Ev)}, PostS K J σ0 Q F H L r → Stp F H L F1 H1 L1 → (∀ a, L1' a → L1 a) → PostS K J σ0 Q F1 H1 L1' r
  | none, h, _, _ => h
  | some (.nx, _), h, st, hl => fun σ' F' H' O' st' s => h σ' F' H' O' (st.trans st' hl) s
  | some (.bk, _), h, st, hl => fun σ' F' H' O' st' s => h σ' F' H' O' (st.trans st' hl) s
  | some (.ct, _), h, st, hl => fun σ' F' H' O' st' s => h σ' F' H' O' (st.trans st' hl) s
  | some (.rt _, _), h, st, hl => fun x σ' F' H' O' R st' s w d => h x σ' F' H' O' R (st.trans st' hl) s w d

/-! ### values behind operands -/
/-- p's value is x -/
def OpAt (K : PySem.W.Frag) (F : AS) (H : Hp) (σ : St) (x : V) (R : AS) : Sum Nat Val → Prop
  | .inl i => σ[i]? = some (some x) ∧ ∀ a, ¬ R a
  | .inr v => Ow K F H v.n x v.d R
inductive OpsAt (K : PySem.W.Frag) (F : AS) (H : Hp) (σ : St) : List V → List (Sum Nat Val) → AS → Prop
  | nil {R : AS} : (∀ a, ¬ R a) → OpsAt K F H σ [] [] R
  | cons {x : V} {p : Sum Nat Val} {xs : List V} {ps : List (Sum Nat Val)} {R R1 R2 : AS} : OpAt K F H σ x R1 p → OpsAt K F H σ xs ps R2 → (∀ a, R1 a → R2 a → False) → (∀ a, R a ↔ (R1 a ∨ R2 a)) → OpsAt K F H σ (x :: xs) (p :: ps) R
theorem OpAt.alloc {x : V} : ∀ {p : Sum Nat Val}, OpAt K F H σ x R p → ∀ a, R a → (∃ o, H a = some o) ∧ ¬ F a
  | .inl _, h, a, r => (h.2 a r).elim
  | .inr _, h, a, r => Ow.alloc h a r
theorem OpAt.frame {x : V} : ∀ {p : Sum Nat Val}, OpAt K F H σ x R p → Stp F H L F' H' L' → (∀ a, L a → ¬ F a) → (∀ a, L a → R a → False) → OpAt K F' H' σ x R p
  | .inl _, h, _, _, _ => h
  | .inr _, h, st, hL, hd => Ow.frame h st hL hd
theorem OpsAt.alloc : ∀ {xs : List V} {ps : List (Sum Nat Val)} {R : AS}, OpsAt K F H σ xs ps R → ∀ a, R a → (∃ o, H a = some o) ∧ ¬ F a
  | _, _, _, .nil e, a, r => (e a r).elim
  | _, _, _, .cons h t _ i, a, r => ((i a).mp r).elim (fun z => OpAt.alloc h a z) fun z => OpsAt.alloc t a z
/-- one operand is run -/
theorem tO_run {Q : VK} {o : Opd} {p : Sum Nat Val} (s : Sta K J σ0 F H env σ O) (e : r1 o env = some (p, env1))
    (h : ∀ x F1 H1 O1 R1, Stp F H (Tot O) F1 H1 (fun a => Tot O1 a ∨ R1 a) → Sta K J σ0 F1 H1 env1 σ O1 → OpAt K F1 H1 σ x R1 p → (∀ a, Tot O1 a → R1 a → False) → Q x H1) : tO K J σ0 o σ H Q := by
  cases o with
  | nm i =>
    unfold r1 has at e
    dsimp only at e
    split at e
    · cases e
      rename_i hh
      obtain ⟨x, ex, w⟩ := s.slot i _ hh
      exact ⟨x, ex, h x F H O (fun _ => False) (.refl _ _ _ _ fun a z => z.elim id False.elim) s ⟨ex, fun _ z => z⟩ fun _ _ z => z⟩
    · cases e
  | ex f =>
    unfold r1 at e
    dsimp only at e
    cases q : f env with
    | none => rw [q] at e; cases e
    | some r =>
      rw [q] at e
      obtain ⟨v, env'⟩ := r
      cases e
      refine ⟨F, env, O, s, ?_⟩
      rw [q]
      exact fun x F' H' O' R st s' w d => h x F' H' O' R st s' w d
/-- operands are run from the left -/
theorem tOs_run : ∀ {os : List Opd} {ps : List (Sum Nat Val)} {F : AS} {H : Hp} {env env1 : Ev} {O : Nat → AS} {Q : List V → Hp → Prop}, Sta K J σ0 F H env σ O → rN os env = some (ps, env1) →
    (∀ xs F1 H1 O1 R1, Stp F H (Tot O) F1 H1 (fun a => Tot O1 a ∨ R1 a) → Sta K J σ0 F1 H1 env1 σ O1 → OpsAt K F1 H1 σ xs ps R1 → (∀ a, Tot O1 a → R1 a → False) → Q xs H1) → tOs K J σ0 os σ H Q
  | [], ps, F, H, env, env1, O, Q, s, e, h => by
    cases e
    exact h [] F H O (fun _ => False) (.refl _ _ _ _ fun a z => z.elim id False.elim) s (.nil fun _ z => z) fun _ _ z => z
  | o :: os, ps, F, H, env, env1, O, Q, s, e, h => by
    unfold rN at e
    cases q : r1 o env with
    | none => rw [q] at e; cases e
    | some r =>
      obtain ⟨p, env2⟩ := r
      rw [q] at e
      dsimp only [Option.bind] at e
      cases q2 : rN os env2 with
      | none => rw [q2] at e; cases e
      | some r2 =>
        obtain ⟨ps2, env3⟩ := r2
        rw [q2] at e
        cases e
        refine tO_run s q fun x F1 H1 O1 R1 st1 s1 w1 d1 => ?_
        refine tOs_run s1 q2 fun xs F2 H2 O2 R2 st2 s2 w2 d2 => ?_
        have nf1 : ∀ a, Tot O1 a → ¬ F1 a := fun a z => (s1.own z).2
        refine h (x :: xs) F2 H2 O2 (fun a => R1 a ∨ R2 a) ?_ s2 (.cons (w1.frame st2 nf1 d1) w2 (fun a z1 z2 => ?_) fun _ => Iff.rfl) (fun a t z => ?_)
        · refine ⟨fun a z => st2.mono a (st1.mono a z), (st1.trans st2 fun a z => .inl z).grow, fun a z => ?_, (st1.trans st2 fun a z => .inl z).keep, (st1.trans st2 fun a z => .inl z).there⟩
          rcases z with z | z | z
          · exact (st1.trans st2 fun a z => .inl z).own a (.inl z)
          · exact st1.own a (.inr z)
          · exact (st1.trans st2 fun a z => .inl z).own a (.inr z)
        · obtain ⟨⟨o, e1⟩, _⟩ := w1.alloc a z1
          rcases st2.own a (.inr z2) with z | z
          · exact d1 a z z1
          · rw [e1] at z; cases z
        · rcases z with z | z
          · obtain ⟨⟨o, e1⟩, _⟩ := w1.alloc a z
            rcases st2.own a (.inl t) with y | y
            · exact d1 a y z
            · rw [e1] at y; cases y
          · exact d2 a t z
inductive VwL (K : PySem.W.Frag) (F : AS) (H : Hp) : List V → List D → Prop
  | nil : VwL K F H [] []
  | cons {x : V} {d : D} {xs : List V} {ds : List D} : Vw K F H x d → VwL K F H xs ds → VwL K F H (x :: xs) (d :: ds)
theorem look_vw {v : Val} {d : D} {x : V} (e : look v = some d) (w : Ow K F H v.n x v.d R) : Vw K F H x d := by
  unfold look at e
  split at e
  · cases e; exact Ow.vw (by assumption) w
  · cases e
theorem rs_vw (s : Sta K J σ0 F H env σ O) {x : V} {p : Sum Nat Val} {d : D} (w : OpAt K F H σ x R p) (e : rs p env = some d) : Vw K F H x d := by
  cases p with
  | inl i =>
    unfold rs at_ at e
    dsimp only at e
    cases q : env[i]? with
    | none => rw [q] at e; cases e
    | some o =>
      cases o with
      | none => rw [q] at e; cases e
      | some v =>
        rw [q] at e
        obtain ⟨x', ex, w'⟩ := s.slot i v q
        rw [w.1] at ex; cases ex
        exact look_vw e w'
  | inr v => exact look_vw e w
theorem rsN_vw (s : Sta K J σ0 F H env σ O) : ∀ {xs : List V} {ps : List (Sum Nat Val)} {ds : List D} {R : AS}, OpsAt K F H σ xs ps R → rsN ps env = some ds → VwL K F H xs ds
  | _, _, _, _, .nil _, e => by cases e; exact .nil
  | _, _, _, _, .cons (p := p) (ps := ps) h t _ _, e => by
    unfold rsN at e
    cases q : rs p env with
    | none => rw [q] at e; cases e
    | some d =>
      rw [q] at e
      dsimp only [Option.bind] at e
      cases q2 : rsN ps env with
      | none => rw [q2] at e; cases e
      | some ds =>
        rw [q2] at e
        cases e
        exact .cons (rs_vw s h q) (rsN_vw s t q2)
/-- a pure operation's answer: new objects alone -/
def NewV (K : PySem.W.Frag) (F : AS) (H : Hp) (res : Val) (Q : VK) : Prop :=
  ∀ z F' H' R, (∀ a o, H a = some o → H' a = some o) → (∀ a, F a → F' a) → (∀ a, F' a → F a ∨ (H a = none ∧ ∃ o, H' a = some o)) → (∀ a, R a → H a = none) → Ow K F' H' res.n z res.d R → Q z H'
theorem NewV.old {res : Val} {Q : VK} (h : NewV K F H res Q) {z : V} (w : Fz K F H z res.d) (hn : res.n = 0 ∨ isObjD res.d = false) : Q z H :=
  h z F H (fun _ => False) (fun _ _ e => e) (fun _ f => f) (fun _ f => .inl f) (fun _ f => f.elim) (.fz w hn fun _ z => z)
/-- r is served by o -/
def SemN (X : Cx) (r : List V → Hp → VK → Prop) (o : List D → Option Val) : Prop :=
  ∀ (F : AS) (H : Hp) (xs : List V) (ds : List D) (res : Val) (Q : VK), (∀ a, F a → ∃ u, H a = some u) → VwL X.K F H xs ds → o ds = some res → NewV X.K F H res Q → r xs H Q
theorem Sta.grown (s : Sta K J σ0 F H env σ O) (hH : ∀ a o, H a = some o → H' a = some o) (hF : ∀ a, F a → F' a) (hg : ∀ a, F' a → F a ∨ (H a = none ∧ ∃ o, H' a = some o)) : Sta K J σ0 F' H' env σ O := by
  refine ⟨fun i v e => ?_, s.emp, s.disj, fun a f => ?_, s.pin, s.len⟩
  · obtain ⟨x, ex, w⟩ := s.slot i v e
    refine ⟨x, ex, w.mono hF (fun a o _ q => hH a o q) (fun a o _ q => hH a o q) fun a o f => ?_⟩
    obtain ⟨⟨u, q⟩, nf⟩ := w.alloc a o
    rcases hg a f with z | ⟨z, _⟩
    · exact nf z
    · rw [q] at z; cases z
  · rcases hg a f with z | ⟨_, z⟩
    · obtain ⟨o, e⟩ := s.al a z
      exact ⟨o, hH a o e⟩
    · exact z
theorem op_run {X : Cx} {r : List V → Hp → VK → Prop} {o : List D → Option Val} {os : List Opd} {Q : VK} (hr : SemN X r o) (h : rdE X.K J σ0 (opN o os) σ H Q) : tCB r (tOs X.K J σ0 os) σ H Q := by
  obtain ⟨F, env, O, s, h⟩ := h
  unfold opN at h
  cases q : rN os env with
  | none => rw [q] at h; exact h.elim
  | some p =>
    obtain ⟨ps, env1⟩ := p
    rw [q] at h
    dsimp only [Option.bind] at h
    cases q2 : rsN ps env1 with
    | none => rw [q2] at h; exact h.elim
    | some ds =>
      rw [q2] at h
      dsimp only at h
      cases q3 : o ds with
      | none => rw [q3] at h; exact h.elim
      | some res =>
        rw [q3] at h
        refine tOs_run s q fun xs F1 H1 O1 R1 st1 s1 w1 d1 => ?_
        refine hr F1 H1 xs ds res Q s1.al (rsN_vw s1 w1 q2) q3 fun z F' H' R hH hF hg hR w => ?_
        refine h z F' H' O1 R ⟨fun a f => hF a (st1.mono a f), fun a f => ?_, fun a t => ?_, fun a u e n => hH a u (st1.keep a u e n), fun a u e => ?_⟩ (s1.grown hH hF hg) w fun a t r => ?_
        · rcases hg a f with z | ⟨z, _⟩
          · exact st1.grow a z
          · exact .inr (.inr (none_of_there st1.there z))
        · rcases t with t | t
          · exact st1.own a (.inl t)
          · exact .inr (none_of_there st1.there (hR a t))
        · obtain ⟨u', e'⟩ := st1.there a u e
          exact ⟨u', hH a u' e'⟩
        · obtain ⟨⟨u, e⟩, _⟩ := s1.own t
          rw [hR a r] at e; cases e
theorem _root_.L2.PE.conseq {X : Cx} {e : Expr} {t t' : TE} (h : PE X e t) (c : ∀ σ H Q, t' σ H Q → t σ H Q) : PE X e t' := ⟨fun pins s σ H Q I hw => h.run pins s σ H Q I (c σ H Q hw)⟩
theorem _root_.L2.PT.conseq {X : Cx} {e : Expr} {t t' : TT} (h : PT X e t) (c : ∀ σ H Q, t' σ H Q → t σ H Q) : PT X e t' := ⟨fun pins s σ H Q I hw => h.run pins s σ H Q I (c σ H Q hw)⟩
theorem _root_.L2.PS.conseq {X : Cx} {e : Stmt} {t t' : TS} (h : PS X e t) (c : ∀ D σ H, t' D σ H → t D σ H) : PS X e t' := ⟨fun pins s σ H D I hw => h.run pins s σ H D I (c D σ H hw)⟩
theorem _root_.L2.PSs.conseq {X : Cx} {e : List Stmt} {t t' : TS} (h : PSs X e t) (c : ∀ D σ H, t' D σ H → t D σ H) : PSs X e t' := ⟨fun pins s σ H D I hw => h.run pins s σ H D I (c D σ H hw)⟩
end
end Dn
end
section
set_option Elab.async false
set_option linter.all false
set_option maxRecDepth 100000
set_option maxHeartbeats 4000000
namespace Dn
open PySem PySem.Spec PyProof.Rows L2

/-! ### defs whose callers stand within no repr -/
structure RoomG (k : Nat) (A : Around) : Prop where
  r : Room k A
  g : A.guards = some []
theorem RoomG.mono {j k : Nat} {A : Around} (h : RoomG k A) (l : j ≤ k) : RoomG j A := ⟨h.r.mono l, h.g⟩
theorem RoomG.deeper {k : Nat} {A : Around} (h : RoomG (k + 1) A) (env : Env) : RoomG k (A.deeper env) := ⟨h.r.deeper env, h.g⟩
/-- a def that raises nothing -/
structure FnG (P : Program) (w : World) (K : PySem.W.Frag) (mg : Str → Option Value) (base : Heap) (k : Nat) (f : Addr) (fd : FuncData) (ps : List Str) (sp : Sp) : Prop where
  len : ∀ vs H Q E, sp vs H Q E → vs.length = ps.length
  run : ∀ (A : Around) (outer : List Env) (s : Shared) (H : Hp) (args : Args) (us : List Value) (vs : List V) (Q : VK), RoomG k A → Env0 P w K mg base A outer s H → BindsTo s fd args (ps.zip us) → Vals vs us → sp vs H Q E0 →
    codeAny (model P w) A (.call (.ref f) args) (CR CX0 outer P w H s Q E0) s
section
variable {P : Program} {w : World} {K : PySem.W.Frag} {mg : Str → Option Value} {base : Heap}
theorem FnG.mono {j k : Nat} {f : Addr} {fd : FuncData} {ps : List Str} {sp : Sp} (F : FnG P w K mg base j f fd ps sp) (h : j ≤ k) : FnG P w K mg base k f fd ps sp :=
  ⟨F.len, fun A o s H args us vs Q hr => F.run A o s H args us vs Q (hr.mono h)⟩
theorem FnG.imp {k : Nat} {f : Addr} {fd : FuncData} {ps : List Str} {sp sp' : Sp} (F : FnG P w K mg base k f fd ps sp) (h : ∀ vs H Q E, sp' vs H Q E → sp vs H Q E) : FnG P w K mg base k f fd ps sp' :=
  ⟨fun vs H Q E z => F.len vs H Q E (h _ _ _ _ z), fun A o s H args us vs Q hr e b r z => F.run A o s H args us vs Q hr e b r (h _ _ _ _ z)⟩
theorem Fun.okG {x qual : Str} {st : Stmt} {f : Addr} {fd : FuncData} {N ps : List Str} {k : Nat} {sp : Sp} (F : Fun K x qual st f fd) (S : FnScope N ps (defScope st)) (len : ∀ vs H Q E, sp vs H Q E → vs.length = ps.length)
    (hbody : ∀ (cdv : Value) (A : Around) (outer : List Env) (s : Shared) (H : Hp) (vs : List V) (Q : VK), RoomG k (A.deeper (envOfC qual (defScope st) s.heap.objs.size f cdv)) → sp vs H Q E0 →
      ∃ t, PSs (cxOf CX0 P w K mg base N qual (defScope st) f cdv A outer s H E0).nox (defBody st) t ∧ t { nx := fun _ H' => Q .non H', rt := Q } (start N vs) H) : FnG P w K mg base (k + 1) f fd ps sp := by
  obtain ⟨oc, od, kV, doc, pm, an, cdv, ct, osl, rfl, lk, hcd⟩ := F.ex
  refine ⟨len, fun A outer s H args us vs Q hr e0 hb r hsp => ?_⟩
  have inH : K.In s.heap := e0.mod.kin.keeps fun b o e => (e0.bs b o e).1
  have noLim : s.heap.NoLimit := e0.mod.nolimit.keeps fun b o e => (e0.bs b o e).1
  have kinds : ∀ y ∈ ps.zip us, (defScope st).names.lookup y.1 = some .local ∨ ((defScope st).names.lookup y.1 = some .cell ∧ ((cellsFrom (s.heap.objs.size + 1) (defScope st).names []).lookup y.1).isSome = true) := by
    intro y hy
    rcases S.par y.1 (List.of_mem_zip hy).1 with q | q
    · exact .inl q
    · exact .inr ⟨q, PySem.W.cellsFrom_some _ _ _ (.inl q)⟩
  refine codeAny_call_function hr.r.depth (inH _ _ lk) rfl S.co S.gen rfl (PySem.W.codeRec_of inH hcd) (hb _ _ _ _ (wpAny_newFunctionEnv_cells S.kind kinds fun env he s1 x => ?_))
  subst he
  refine ⟨noLim.keeps x.toInCall.keep, codeAny_func ?_⟩
  obtain ⟨t, ht, hq⟩ := hbody cdv A outer s H vs Q (hr.deeper _) hsp
  have I0 := inv_start (CX := CX0) (P := P) (w := w) (mg := mg) (qual := qual) (f := f) (cd := cdv) (E := E0) S hr.r.hd e0 (len _ _ _ _ hsp) r x
  refine wpAny_mono (ht.nox.run [] s1 (start N vs) H _ I0 hq) (fun fl s' hs => ?_) fun e s' hs => hs
  cases fl with
  | ret u =>
    obtain ⟨v, σ', H', J, rv, q⟩ := hs
    exact ⟨v, H', J.os, J.bare, J.base, J.hok, rv, q⟩
  | next =>
    obtain ⟨σ', H', J, q⟩ := hs
    exact ⟨V.non, H', J.os, J.bare, J.base, J.hok, rfl, q⟩
  | brk => exact hs.elim fun _ z => z.elim fun _ z => z.2.elim
  | cont => exact hs.elim fun _ z => z.elim fun _ z => z.2.elim
end
section
variable {X : Cx} {k : Nat} {f : Addr} {fd : FuncData} {ps : List Str} {sp : Sp} {dvs : List V} {ds : List Value} {x : Str} {p pos : Pos} {e : Expr} {es : List Expr} {t : TA}
theorem run_fnG {pins : List (Addr × Obj)} {σ : L2.St} {H : Hp} {s : Shared} {Q : VK} {us : List Value} {vs : List V} (F : FnG X.prog X.w X.K X.mg X.base k f fd ps sp) (hr : RoomG k X.A) (hb : Binds X.K fd ps [])
    (I : Inv X pins σ H s) (r : Vals vs us) (h : sp vs H Q E0) : wpAny (model X.prog X.w) X.A (call (.ref f) us) (EP X pins σ Q) X.xe s := by
  have hl : us.length = ps.length := r.length.symm.trans (F.len _ _ _ _ h)
  have bb := hb s us I.kIn (by simpa using hl)
  rw [List.append_nil] at bb
  refine wpAny_call (codeAny_mono (F.run X.A X.stack s H ⟨us, []⟩ us vs Q hr I.env0 bb r h) fun res s' hq => ?_)
  match res, hq with
  | .error _, hq => exact hq.elim
  | .ok (.ret _), hq => exact I.after hq
  | .ok .next, hq => exact hq.elim
  | .ok .brk, hq => exact hq.elim
  | .ok .cont, hq => exact hq.elim
def tCallG (sp : Sp) (t : TA) : TE := fun σ H Q => t σ H fun vs H1 => sp vs H1 Q E0
theorem pe_callG (F : FnG X.prog X.w X.K X.mg X.base k f fd ps sp) (hr : RoomG k X.A) (hg : Gl X x) (hm : X.mg x = some (.ref f)) (hk : PySem.W.keepIn X.K (.ref f) = true) (hb : Binds X.K fd ps [])
    (ha : PA X (e :: es) t) (hdb : (x == ("__debug__" : Str)) = false := by decide) (he : starEach (e :: es) X.env = (false, eval e X.env) :: starEach es X.env := by rfl) (hpl : (backTo pos (starEach es X.env)).any (·.1) = false := by rfl) :
    PE X (.Call (.Name x p) (e :: es) [] pos) (tCallG sp t) := by
  refine ⟨fun pins s σ H Q I h => wpAny_Call_Name_kw (ld_glob I hg hm ?_ hdb)⟩
  refine PySem.W.callWith_K (h₀ := X.base) I.ok.mod.kin hk (thn (ha.run pos pins s σ H _ I h) fun us s1 q => ?_) he hpl
  obtain ⟨vs, H1, I1, r, q⟩ := q
  exact ⟨I1.kIn, run_fnG F hr hb I1 r q⟩
theorem pe_callG0 (F : FnG X.prog X.w X.K X.mg X.base k f fd ps sp) (hr : RoomG k X.A) (hg : Gl X x) (hm : X.mg x = some (.ref f)) (hk : PySem.W.keepIn X.K (.ref f) = true) (hb : Binds X.K fd ps [])
    (hdb : (x == ("__debug__" : Str)) = false := by decide) : PE X (.Call (.Name x p) [] [] pos) (tCallG sp tNil) :=
  ⟨fun pins s σ H Q I h => wpAny_Call_Name_kw (ld_glob I hg hm (PySem.W.callWith_K0 I.kIn hk (run_fnG (us := []) F hr hb I .nil h)) hdb)⟩
end
/-- the law's call at the heap behind the top -/
theorem callG {P : Program} {w : World} {K : PySem.W.Frag} {mg mb : Str → Option Value} {k : Nat} {fa a : Addr} {fd : FuncData} {x : Str} {sp : Sp} {st : Shared} {vs : List Value} {ns : List Int}
    (kin : K.In st.heap) (gl : st.heap.Ns mainGlobals mg) (bl : st.heap.Ns builtinsNs mb) (blv : ∀ x : Str, x ≠ "__name__" → mb x = bootBuiltins x) (lim : st.heap.NoLimit) (gn : st.gens = #[])
    (obj : st.heap.get? a = some { cls := .type "list", data := .seq vs.toArray }) (hi0 : IntsAre vs ns) (len : ns.length ≤ sizeLine) (hr : RoomG k callerA)
    (F : ∀ base : Heap, K.In base → base.Ns mainGlobals mg → FnG P w K mg base k fa fd [x] sp) (hbind : ∀ (s : Shared) (u : Value), BindsTo s fd ⟨[u], []⟩ [(x, u)])
    (hsp : ∀ H : Hp, Only H → SqL K H a (ns.map V.int) → sp [.ref a] H (fun v _ => v = .bl true) E0) :
    codeAny (model P w) callerA (.call (.ref fa) ⟨[.ref a], []⟩) (fun r s' => r = .ok (.ret (.bool true)) ∧ OldK st.heap s'.heap ∧ s'.os = st.os ∧ AllBare s'.gens) st := by
  have rv := vals_ints hi0
  have main : ∀ H : Hp, Only H → SqL K H a (ns.map V.int) → HOk P w H st.heap → (∀ b, H b ≠ none → b = a) → (H a ≠ none → K.lookup a = none) →
      codeAny (model P w) callerA (.call (.ref fa) ⟨[.ref a], []⟩) (fun r s' => r = .ok (.ret (.bool true)) ∧ OldK st.heap s'.heap ∧ s'.os = st.os ∧ AllBare s'.gens) st := by
    intro H hO hS ok hA hK
    have isa : ∀ {b : Addr} {u : HO}, H b = some u → b = a := fun {b u} q => hA b (by rw [q]; simp)
    have dictFree : ∀ {b : Addr} {o : Obj} {es : Array DictEntry} {ep : Nat}, st.heap.get? b = some o → o.data = .dict es ep → H b = none := by
      intro b o es ep e d
      cases q : H b with
      | none => rfl
      | some u =>
        rw [isa q, obj] at e
        cases e
        exact nomatch d
    have ns1 : ∀ {b : Addr} {m : Str → Option Value}, st.heap.Ns b m → (hidT st.heap H).Ns b m := fun ⟨o, es, ep, e, d, r⟩ => ⟨o, es, ep, hidT_get e (dictFree e d), d, r⟩
    have kinB : K.In (hidT st.heap H) := by
      intro b o e
      refine hidT_get (kin b o e) ?_
      cases q : H b with
      | none => rfl
      | some u =>
        have := isa q
        subst this
        rw [hK (by rw [q]; simp)] at e
        cases e
    have modB : Mod K mg (hidT st.heap H) := ⟨kinB, ns1 gl, ⟨mb, ns1 bl, blv⟩, let ⟨mc, h1, h2⟩ := lim; ⟨mc, ns1 h1, h2⟩⟩
    have env0 : Env0 P w K mg (hidT st.heap H) callerA [] st H := ⟨rfl, modB, fun b o e => of_hidT e, Nat.le_of_eq (hidT_size _ _), trivial, fun b hb => absurd (show b ∈ ([] : List Addr) from hb) (by simp), ok, .of_eq gn⟩
    refine codeAny_mono ((F _ kinB (ns1 gl)).run callerA [] st H ⟨[.ref a], []⟩ [.ref a] [.ref a] _ hr env0 (hbind st (.ref a)) (.cons rfl .nil) (hsp H hO hS)) fun r s' h => ?_
    match r, h with
    | .error _, h => exact h.elim
    | .ok .next, h => exact h.elim
    | .ok .brk, h => exact h.elim
    | .ok .cont, h => exact h.elim
    | .ok (.ret u), h =>
      obtain ⟨v, H', os, bare, un, ok', r', (q : v = .bl true)⟩ := h
      subst q
      cases (show u = Value.bool true from r')
      refine ⟨rfl, OldK.of_keep fun b o e => ?_, os, bare⟩
      rcases hO b with z | ⟨ob, xs, z⟩
      · exact un.keep b o e z (fun y => nomatch (show b ∈ ([] : List Addr) from y)) (by simp)
      · obtain ⟨e1, _⟩ := ok b _ z
        obtain ⟨e2, _⟩ := ok' b _ (un.frzs b ob _ z)
        rw [e] at e1
        cases e1
        exact e2
  have lv : ns.length = vs.length := by rw [← hi0.length]
  cases hk : K.lookup a with
  | some o =>
    have e := kin a o hk
    rw [obj] at e
    cases e
    exact main (fun _ => none) (fun _ => .inl rfl) (.inr ⟨_, vs.toArray, _, hk, rfl, rfl, rfl, by simpa [← lv] using len, by simpa using rv⟩) (fun b u z => nomatch z) (fun b z => absurd rfl z) fun z => absurd rfl z
  | none =>
    have h1 : ∀ b, b ≠ a → (if b = a then some (HO.frz { cls := .type "list", data := .seq vs.toArray } (.lst (ns.map V.int))) else none) = none := fun b n => if_neg n
    refine main (fun b => if b = a then some (.frz { cls := .type "list", data := .seq vs.toArray } (.lst (ns.map V.int))) else none) (fun b => ?_) (.inl (.inr ⟨{ cls := .type "list", data := .seq vs.toArray }, if_pos rfl⟩)) (fun b u z => ?_) (fun b z => ?_) fun _ => hk
    · by_cases e : b = a
      · exact .inr ⟨_, _, if_pos e⟩
      · exact .inl (h1 b e)
    · by_cases e : b = a
      · subst e
        have z2 := (if_pos rfl).symm.trans z
        cases z2
        exact ⟨obj, by rw [List.length_map]; exact len, vs, _, rv, obj⟩
      · have z2 := (h1 b e).symm.trans z
        cases z2
    · by_cases e : b = a
      · exact e
      · exact absurd (h1 b e) z
theorem walk_G {l : PySem.W.OpenLaw} {n k : Nat} {q : Program} {loose : List Str} {XP : (Str → Option Value) → Heap → Prop} {YP : World → Heap → Prop} {d : DefRec} {K : Params → PySem.W.Frag} {sp : World → Sp} {x : Str}
    (hn : l.most = some n) (hn2 : n ≤ sizeLine) (hdf : d.params.defaults = []) (hr : RoomG k callerA) (hY : ∀ (w : World) (h : Heap), YP w h → (K w.params).In h)
    (F : ∀ (w : World) (mg : Str → Option Value) (fa : Addr) (h : Heap), (K w.params).In h → h.Ns mainGlobals mg → mg d.name = some (.ref fa) →
      ∃ fd : FuncData, (∀ (s : Shared) (u : Value), BindsTo s fd ⟨[u], []⟩ [(x, u)]) ∧ ∀ base : Heap, (K w.params).In base → base.Ns mainGlobals mg → FnG l.prog w (K w.params) mg base k fa fd [x] (sp w))
    (hsp : ∀ (w : World) (H : Hp) (a : Addr) (ns : List Int), ns.length ≤ n → Only H → SqL (K w.params) H a (ns.map V.int) → sp w [.ref a] H (fun v _ => v = .bl true) E0) :
    PySem.W.WalkO q loose XP YP l.row.toRowW d [] (fun f vs => PySem.call f vs) := by
  refine Att.attach_call hn hdf fun w s0 st mg mb fa o pm cd doc a vs ns G Y ho hd hcd hmg hobj hints hlen hg => ?_
  obtain ⟨fd, hb, hF⟩ := F w mg fa _ (hY w _ Y) G.T.g hmg
  exact callG (hY w _ Y) G.T.g G.T.b G.T.builtins G.T.nolimit hg hobj hints (Nat.le_trans hlen hn2) hr hF hb fun H hO hS => hsp w H a ns hlen hO hS
end Dn
end
section
set_option Elab.async false
set_option linter.all false
set_option maxRecDepth 100000
set_option maxHeartbeats 4000000
namespace Dn
open PySem L2

/-! ### inversions -/
section
variable {K : PySem.W.Frag} {F : AS} {H : Hp} {x : V}
theorem Vw.non (h : Vw K F H x .none) : x = .non := by cases h with | fz h => cases h; rfl
theorem Vw.bl {b : Bool} (h : Vw K F H x (.bool b)) : x = .bl b := by cases h with | fz h => cases h; rfl
theorem Vw.int {i : Int} (h : Vw K F H x (.int i)) : x = .int i := by cases h with | fz h => cases h; rfl
theorem Vw.str {z : Str} (h : Vw K F H x (.str z)) : x = .str z := by cases h with | fz h => cases h; rfl
theorem Vw.list {ds : List D} (h : Vw K F H x (.list ds)) : ∃ a xs, x = .ref a ∧ H a = some (.lst xs) ∧ FzL K F H xs ds := by
  cases h with
  | fz h => cases h with | lst h t => exact ⟨_, _, rfl, h.2, t⟩
  | lst h t => exact ⟨_, _, rfl, h, t⟩
theorem Vw.dict {ds : List (D × D)} (h : Vw K F H x (.dict ds)) : ∃ a kvs, x = .ref a ∧ H a = some (.dK kvs) ∧ FzK K F H kvs ds := by
  cases h with
  | fz h => cases h with | dK h t => exact ⟨_, _, rfl, h.2, t⟩
  | dK h t => exact ⟨_, _, rfl, h, t⟩
theorem Vw.tup {ds : List D} (h : Vw K F H x (.tuple ds)) : ∃ a xs, x = .ref a ∧ SqT K H a xs ∧ FzL K F H xs ds ∧ Fz K F H x (.tuple ds) := by
  cases h with
  | fz h =>
    cases h with
    | tup h t => exact ⟨_, _, rfl, .inl (.inl h.2), t, .tup h t⟩
    | tupK h t => exact ⟨_, _, rfl, .inr h, t, .tupK h t⟩
theorem VwL.nil' (h : VwL K F H xs []) : xs = [] := by cases h; rfl
theorem VwL.cons' {xs : List V} {d : D} {ds : List D} (h : VwL K F H xs (d :: ds)) : ∃ x ys, xs = x :: ys ∧ Vw K F H x d ∧ VwL K F H ys ds := by
  cases h with | cons h t => exact ⟨_, _, rfl, h, t⟩
theorem VwL.one {xs : List V} {d : D} (h : VwL K F H xs [d]) : ∃ x, xs = [x] ∧ Vw K F H x d := by
  obtain ⟨x, ys, rfl, h1, t⟩ := h.cons'
  cases t; exact ⟨_, rfl, h1⟩
theorem VwL.two {xs : List V} {d e : D} (h : VwL K F H xs [d, e]) : ∃ x y, xs = [x, y] ∧ Vw K F H x d ∧ Vw K F H y e := by
  obtain ⟨x, ys, rfl, h1, t⟩ := h.cons'
  obtain ⟨y, rfl, h2⟩ := t.one
  exact ⟨_, _, rfl, h1, h2⟩
/-! no dict within: for == and repr -/
mutual
def nd : D → Bool
  | .dict _ => false
  | .list xs => ndL xs
  | .tuple xs => ndL xs
  | _ => true
def ndL : List D → Bool
  | [] => true
  | x :: xs => nd x && ndL xs
end
mutual
theorem nd_lay : ∀ d : D, d.canLay0 = true → nd d = true
  | .none, _ => rfl
  | .bool _, _ => rfl
  | .int _, _ => rfl
  | .str _, _ => rfl
  | .list xs, h => by unfold PyData.canLay0 at h; unfold nd; exact ndL_lay xs h
  | .tuple xs, h => by unfold PyData.canLay0 at h; unfold nd; exact ndL_lay xs h
  | .dict _, h => by unfold PyData.canLay0 at h; cases h
theorem ndL_lay : ∀ ds : List D, PyData.canLayAll0 ds = true → ndL ds = true
  | [], _ => rfl
  | d :: ds, h => by
    unfold PyData.canLayAll0 at h
    rw [Bool.and_eq_true] at h
    unfold ndL
    rw [nd_lay d h.1, ndL_lay ds h.2]; rfl
end
mutual
theorem Fz.dp : ∀ {x : V} {d : D}, nd d = true → Fz K F H x d → Dp K H x d
  | _, _, _, .non => .non
  | _, _, _, .bl b => .bl b
  | _, _, _, .int i => .int i
  | _, _, _, .str s => .str s
  | _, _, h, .tup a t => .tup (.inl (.inl a.2)) (FzL.dp (by unfold nd at h; exact h) t)
  | _, _, h, .tupK a t => .tup (.inr a) (FzL.dp (by unfold nd at h; exact h) t)
  | _, _, h, .lst a t => .lst (.inl (.inl a.2)) (FzL.dp (by unfold nd at h; exact h) t)
  | _, _, h, .dK _ _ => by unfold nd at h; cases h
theorem FzL.dp : ∀ {x : List V} {d : List D}, ndL d = true → FzL K F H x d → DpAll K H x d
  | _, _, _, .nil => .nil
  | _, _, h, .cons a t => by
    unfold ndL at h
    rw [Bool.and_eq_true] at h
    exact .cons (Fz.dp h.1 a) (FzL.dp h.2 t)
end
theorem Vw.dp {d : D} (hn : nd d = true) (h : Vw K F H x d) : Dp K H x d := by
  cases h with
  | fz h => exact h.dp hn
  | lst h t => exact .lst (.inl (.inl h)) (t.dp (by unfold nd at hn; exact hn))
  | dK _ _ => unfold nd at hn; cases hn
end

/-! ### pure operations -/
section
variable {X : Cx}
theorem NewV.int {K : PySem.W.Frag} {F : AS} {H : Hp} {i : Int} {Q : VK} (h : NewV K F H (fz (.int i)) Q) : Q (.int i) H := h.old (.int i) (.inl rfl)
theorem NewV.bl {K : PySem.W.Frag} {F : AS} {H : Hp} {b : Bool} {Q : VK} (h : NewV K F H (fz (.bool b)) Q) : Q (.bl b) H := h.old (.bl b) (.inl rfl)
theorem NewV.str {K : PySem.W.Frag} {F : AS} {H : Hp} {b : Str} {Q : VK} (h : NewV K F H (fz (.str b)) Q) : Q (.str b) H := h.old (.str b) (.inl rfl)
theorem NewV.non {K : PySem.W.Frag} {F : AS} {H : Hp} {Q : VK} (h : NewV K F H (fz .none) Q) : Q .non H := h.old .non (.inl rfl)
theorem upd_keep {H : Hp} {p : Addr} {o : HO} (hp : H p = none) : ∀ a u, H a = some u → upd H p o a = some u := fun a u e => by rw [upd_ne (ne_of_none e hp)]; exact e
/-- a new list of frozen items -/
theorem NewV.lst {K : PySem.W.Frag} {F : AS} {H : Hp} {xs : List V} {ds : List D} {Q : VK} (h : NewV K F H ⟨.list ds, 1⟩ Q) (t : FzL K F H xs ds) (al : ∀ a, F a → ∃ u, H a = some u) : ∀ p, H p = none → Q (.ref p) (upd H p (.lst xs)) := fun p hp => by
  have nf : ¬ F p := fun f => by obtain ⟨u, e⟩ := al p f; rw [hp] at e; cases e
  refine h (.ref p) F (upd H p (.lst xs)) (fun a => a = p) (upd_keep hp) (fun _ f => f) (fun _ f => .inl f) (fun a e => by rw [e]; exact hp) ?_
  exact .lst (n := 0) upd_same nf (t.mono (fun _ f => f) fun a o _ e => upd_keep hp a o e).owL (fun z => z) (by intro b; simp)
theorem NewV.tup {K : PySem.W.Frag} {F : AS} {H : Hp} {xs : List V} {ds : List D} {Q : VK} (h : NewV K F H (fz (.tuple ds)) Q) (t : FzL K F H xs ds) : ∀ p, H p = none → Q (.ref p) (upd H p (.tup xs)) := fun p hp => by
  refine h (.ref p) (fun a => F a ∨ a = p) (upd H p (.tup xs)) (fun _ => False) (upd_keep hp) (fun _ f => .inl f) (fun a f => ?_) (fun a e => e.elim) ?_
  · rcases f with f | f
    · exact .inl f
    · subst f; exact .inr ⟨hp, _, upd_same⟩
  · exact .fz (.tup ⟨.inr rfl, upd_same⟩ (t.mono (fun _ f => .inl f) fun a o _ e => upd_keep hp a o e)) (.inl rfl) fun _ z => z

def r2 (r : R2) : List V → Hp → VK → Prop := fun xs H Q => match xs with
  | [x, y] => r x y H Q
  | _ => False
def r1' (r : V → Hp → VK → Prop) : List V → Hp → VK → Prop := fun xs H Q => match xs with
  | [x] => r x H Q
  | _ => False

def addO : List D → Option Val
  | [.int i, .int j] => some (fz (.int (i + j)))
  | [.list a, .list b] => if a.length + b.length ≤ sizeLine then some ⟨.list (a ++ b), 1⟩ else none
  | [.tuple a, .tuple b] => if a.length + b.length ≤ sizeLine then some (fz (.tuple (a ++ b))) else none
  | [.str a, .str b] => if a.length + b.length ≤ sizeLine then some (fz (.str (a ++ b))) else none
  | _ => none
def rAddU (K : PySem.W.Frag) : R2 := fun x y H Q => (∃ i j, x = .int i ∧ y = .int j ∧ Q (.int (i + j)) H) ∨ rCat x y H Q ∨ rCatA K x y H Q ∨ (∃ i j, x = .str i ∧ y = .str j ∧ i.length + j.length ≤ sizeLine ∧ Q (.str (i ++ j)) H)
theorem op_addU : OpR X (binaryOp .Add) (rAddU X.K) := op_add.or (op_cat.or (op_catA.or op_add_str))
theorem sem_add : SemN X (r2 (rAddU X.K)) addO := by
  intro F H xs ds res Q al hv e h
  unfold addO at e
  split at e
  · cases e
    obtain ⟨x, y, rfl, h1, h2⟩ := hv.two
    cases h1.int; cases h2.int
    exact .inl ⟨_, _, rfl, rfl, h.int⟩
  · split at e
    · cases e
      obtain ⟨x, y, rfl, h1, h2⟩ := hv.two
      obtain ⟨a, us, rfl, e1, t1⟩ := h1.list
      obtain ⟨b, ws, rfl, e2, t2⟩ := h2.list
      exact .inr (.inl ⟨_, _, _, _, rfl, rfl, e1, e2, by rw [t1.length, t2.length]; assumption, h.lst (t1.append t2) al⟩)
    · cases e
  · split at e
    · rename_i a b hz
      cases e
      obtain ⟨x, y, rfl, h1, h2⟩ := hv.two
      obtain ⟨a', us, rfl, e1, t1, f1⟩ := h1.tup
      obtain ⟨b', ws, rfl, e2, t2, f2⟩ := h2.tup
      refine .inr (.inr (.inl ⟨_, _, _, _, rfl, rfl, e1, e2, by rw [t1.length, t2.length]; exact hz, ?_, ?_, fun _ _ p hp => h.tup (t1.append t2) p hp⟩))
      · intro hn
        have e0 : a = [] := by
          cases t1 with
          | nil => rfl
          | cons _ _ => cases hn
        subst e0
        exact h.old f2 (.inl rfl)
      · intro _ hn
        have e0 : b = [] := by
          cases t2 with
          | nil => rfl
          | cons _ _ => cases hn
        subst e0
        exact h.old (by rw [List.append_nil]; exact f1) (.inl rfl)
    · cases e
  · split at e
    · cases e
      obtain ⟨x, y, rfl, h1, h2⟩ := hv.two
      cases h1.str; cases h2.str
      exact .inr (.inr (.inr ⟨_, _, rfl, rfl, by assumption, h.str⟩))
    · cases e
  · cases e

def subO : List D → Option Val
  | [.int i, .int j] => some (fz (.int (i - j)))
  | _ => none
theorem sem_sub : SemN X (r2 (rI0 fun i j => .int (i - j))) subO := by
  intro F H xs ds res Q al hv e h
  unfold subO at e
  split at e
  · cases e
    obtain ⟨x, y, rfl, h1, h2⟩ := hv.two
    cases h1.int; cases h2.int
    exact ⟨_, _, rfl, rfl, h.int⟩
  · cases e
/-- from -lo to hi: looked at without a subtraction -/
def irB (lo hi : Nat) (n : Int) : Bool := match n with
  | .ofNat k => Nat.ble k hi
  | .negSucc k => Nat.ble (k + 1) lo
theorem irB_iff {lo hi : Nat} {n : Int} : irB lo hi n = true ↔ (-(lo : Int) ≤ n ∧ n ≤ hi) := by
  cases n with
  | ofNat k =>
    show Nat.ble k hi = true ↔ _
    rw [Nat.ble_eq]
    show _ ↔ (_ ≤ (k : Int) ∧ (k : Int) ≤ _)
    omega
  | negSucc k =>
    show Nat.ble (k + 1) lo = true ↔ _
    rw [Nat.ble_eq]
    omega
def mulOk (i j : Int) : Bool := decide (i.natAbs < 2 ^ 64) || decide (j.natAbs < 2 ^ 64) || decide (i.natAbs.log2 + j.natAbs.log2 < 1000000)
def mulO : List D → Option Val
  | [.int i, .int j] => if mulOk i j then some (fz (.int (i * j))) else none
  | [.list a, .int k] => if irB 9223372036854775808 9223372036854775807 k = true ∧ a.length * k.toNat ≤ sizeLine then some ⟨.list (List.replicate k.toNat a).flatten, 1⟩ else none
  | [.tuple a, .int k] => if a.isEmpty = false ∧ 2 ≤ k ∧ irB 0 1000 k = true ∧ a.length ≤ 1000 then some (fz (.tuple (List.replicate k.toNat a).flatten)) else none
  | _ => none
def rMulU (K : PySem.W.Frag) : R2 := fun x y H Q => (rI CMul fun i j => .int (i * j)) x y H Q ∨ (rI CMulW fun i j => .int (i * j)) x y H Q ∨ rRep x y H Q ∨ rRepT K x y H Q
theorem op_mulU : OpR X (binaryOp .Mult) (rMulU X.K) := op_mul.or (op_mulW.or (op_rep.or op_repT))
theorem FzL.rep {K : PySem.W.Frag} {F : AS} {H : Hp} {xs : List V} {ds : List D} (t : FzL K F H xs ds) : ∀ n : Nat, FzL K F H (List.replicate n xs).flatten (List.replicate n ds).flatten
  | 0 => .nil
  | n + 1 => by
    rw [List.replicate_succ, List.replicate_succ, List.flatten_cons, List.flatten_cons]
    exact t.append (FzL.rep t n)
theorem sem_mul : SemN X (r2 (rMulU X.K)) mulO := by
  intro F H xs ds res Q al hv e h
  unfold mulO at e
  split at e
  · split at e
    · rename_i hm
      cases e
      obtain ⟨x, y, rfl, h1, h2⟩ := hv.two
      cases h1.int; cases h2.int
      unfold mulOk at hm
      simp only [Bool.or_eq_true, decide_eq_true_eq] at hm
      rcases hm with (hm | hm) | hm
      · exact .inl ⟨_, _, rfl, rfl, .inl ⟨by omega, by omega⟩, h.int⟩
      · exact .inl ⟨_, _, rfl, rfl, .inr ⟨by omega, by omega⟩, h.int⟩
      · exact .inr (.inl ⟨_, _, rfl, rfl, hm, h.int⟩)
    · cases e
  · split at e
    · rename_i hm
      cases e
      obtain ⟨x, y, rfl, h1, h2⟩ := hv.two
      obtain ⟨a, us, rfl, e1, t1⟩ := h1.list
      cases h2.int
      have hk := irB_iff.mp hm.1
      exact .inr (.inr (.inl ⟨_, _, _, rfl, rfl, e1, by omega, by omega, by rw [t1.length]; exact hm.2, h.lst (t1.rep _) al⟩))
    · cases e
  · split at e
    · rename_i hm
      cases e
      obtain ⟨x, y, rfl, h1, h2⟩ := hv.two
      obtain ⟨a, us, rfl, e1, t1, f1⟩ := h1.tup
      cases h2.int
      refine .inr (.inr (.inr ⟨_, _, _, rfl, rfl, e1, fun z => ?_, hm.2.1, (irB_iff.mp hm.2.2.1).2, by rw [t1.length]; exact hm.2.2.2, fun p hp => h.tup (t1.rep _) p hp⟩))
      subst z
      cases t1
      exact nomatch hm.1
    · cases e
  · cases e
def divOk (j : Int) : Bool := decide (j ≠ 0 ∧ j.natAbs < 1073741824) || decide (0 < j ∧ j.natAbs.log2 < 9000)
def fdivO : List D → Option Val
  | [.int i, .int j] => if divOk j then some (fz (.int (i.fdiv j))) else none
  | _ => none
theorem op_fdivU : OpR X (binaryOp .FloorDiv) (fun x y H Q => (rI CDivN fun i j => .int (i.fdiv j)) x y H Q ∨ (rI CDivW fun i j => .int (i / j)) x y H Q) := op_fdivN.or op_fdivW
theorem sem_fdiv : SemN X (r2 (fun x y H Q => (rI CDivN fun i j => .int (i.fdiv j)) x y H Q ∨ (rI CDivW fun i j => .int (i / j)) x y H Q)) fdivO := by
  intro F H xs ds res Q al hv e h
  unfold fdivO at e
  split at e
  · split at e
    · rename_i i j hm
      cases e
      obtain ⟨x, y, rfl, h1, h2⟩ := hv.two
      cases h1.int; cases h2.int
      unfold divOk at hm
      simp only [Bool.or_eq_true, decide_eq_true_eq] at hm
      rcases hm with hm | hm
      · exact .inl ⟨_, _, rfl, rfl, hm, h.int⟩
      · exact .inr ⟨_, _, rfl, rfl, hm, by have q := h.int; rw [Int.fdiv_eq_ediv_of_nonneg i (by omega)] at q; exact q⟩
    · cases e
  · cases e
def modO : List D → Option Val
  | [.int i, .int j] => if j ≠ 0 then some (fz (.int (i.fmod j))) else none
  | _ => none
theorem sem_mod : SemN X (r2 (rI (fun _ j => j ≠ 0) fun i j => .int (i.fmod j))) modO := by
  intro F H xs ds res Q al hv e h
  unfold modO at e
  split at e
  · split at e
    · rename_i hm
      cases e
      obtain ⟨x, y, rfl, h1, h2⟩ := hv.two
      cases h1.int; cases h2.int
      exact ⟨_, _, rfl, rfl, hm, h.int⟩
    · cases e
  · cases e
def powO : List D → Option Val
  | [.int i, .int j] => if irB 0 1000000 j = true ∧ i.natAbs < 2 ^ 64 then some (fz (.int (i ^ j.toNat))) else none
  | _ => none
theorem sem_pow : SemN X (r2 (rI CPow fun i j => .int (i ^ j.toNat))) powO := by
  intro F H xs ds res Q al hv e h
  unfold powO at e
  split at e
  · split at e
    · rename_i hm
      cases e
      obtain ⟨x, y, rfl, h1, h2⟩ := hv.two
      cases h1.int; cases h2.int
      have hk := irB_iff.mp hm.1
      exact ⟨_, _, rfl, rfl, ⟨by omega, by omega, hm.2⟩, h.int⟩
    · cases e
  · cases e
def shlO : List D → Option Val
  | [.int i, .int j] => if irB 0 1000000 j = true ∧ i.natAbs < 2 ^ 64 then some (fz (.int (i * 2 ^ j.toNat))) else none
  | _ => none
theorem sem_shl : SemN X (r2 (rI CPow fun i j => .int (i * 2 ^ j.toNat))) shlO := by
  intro F H xs ds res Q al hv e h
  unfold shlO at e
  split at e
  · split at e
    · rename_i hm
      cases e
      obtain ⟨x, y, rfl, h1, h2⟩ := hv.two
      cases h1.int; cases h2.int
      have hk := irB_iff.mp hm.1
      exact ⟨_, _, rfl, rfl, ⟨by omega, by omega, hm.2⟩, h.int⟩
    · cases e
  · cases e
def negO : List D → Option Val
  | [.int i] => some (fz (.int (-i)))
  | _ => none
theorem sem_neg : SemN X (r1' (rU fun i => .int (-i))) negO := by
  intro F H xs ds res Q al hv e h
  unfold negO at e
  split at e
  · cases e
    obtain ⟨x, rfl, h1⟩ := hv.one
    cases h1.int
    exact ⟨_, rfl, h.int⟩
  · cases e
/-! comparisons -/
def cmpO (p : Int → Int → Bool) : List D → Option Val
  | [.int i, .int j] => some (fz (.bool (p i j)))
  | _ => none
theorem sem_cmp (p : Int → Int → Bool) : SemN X (r2 (rI0 fun i j => .bl (p i j))) (cmpO p) := by
  intro F H xs ds res Q al hv e h
  unfold cmpO at e
  split at e
  · cases e
    obtain ⟨x, y, rfl, h1, h2⟩ := hv.two
    cases h1.int; cases h2.int
    exact ⟨_, _, rfl, rfl, h.bl⟩
  · cases e
abbrev ltO := cmpO fun i j => decide (i < j)
abbrev leO := cmpO fun i j => decide (i ≤ j)
abbrev gtO := cmpO fun i j => decide (j < i)
abbrev geO := cmpO fun i j => decide (j ≤ i)
def eqO : List D → Option Val
  | [d, e] => if SeqAt.shaped d && SeqAt.shaped e then some (fz (.bool (PyData.eqv d e))) else none
  | _ => none
def neO : List D → Option Val
  | [d, e] => if SeqAt.shaped d && SeqAt.shaped e then some (fz (.bool (!PyData.eqv d e))) else none
  | _ => none
theorem dp_of {K : PySem.W.Frag} {F : AS} {H : Hp} {x : V} {d : D} (s : SeqAt.shaped d = true) (h : Vw K F H x d) : Dp K H x d := h.dp (nd_lay d (SeqAt.canLay_of_shaped s))
theorem sem_eq : SemN X (r2 (rEqD X.K)) eqO := by
  intro F H xs ds res Q al hv e h
  unfold eqO at e
  split at e
  · split at e
    · rename_i hs
      cases e
      rw [Bool.and_eq_true] at hs
      obtain ⟨x, y, rfl, h1, h2⟩ := hv.two
      exact ⟨_, _, dp_of hs.1 h1, dp_of hs.2 h2, hs.1, hs.2, h.bl⟩
    · cases e
  · cases e
theorem sem_ne : SemN X (r2 (rNeD X.K)) neO := by
  intro F H xs ds res Q al hv e h
  unfold neO at e
  split at e
  · split at e
    · rename_i hs
      cases e
      rw [Bool.and_eq_true] at hs
      obtain ⟨x, y, rfl, h1, h2⟩ := hv.two
      exact ⟨_, _, dp_of hs.1 h1, dp_of hs.2 h2, hs.1, hs.2, h.bl⟩
    · cases e
  · cases e
def isNon : D → Bool
  | .none => true
  | _ => false
theorem Fz.non_iff {K : PySem.W.Frag} {F : AS} {H : Hp} {x : V} {d : D} (h : Vw K F H x d) : decide (x = .non) = isNon d := by
  cases h with
  | fz h => cases h <;> first | rfl | exact decide_eq_false (fun z => nomatch z) | exact decide_eq_true rfl
  | lst _ _ => exact decide_eq_false (fun z => nomatch z)
  | dK _ _ => exact decide_eq_false (fun z => nomatch z)
def isO : List D → Option Val
  | [d, .none] => some (fz (.bool (isNon d)))
  | _ => none
def isnotO : List D → Option Val
  | [d, .none] => some (fz (.bool (!isNon d)))
  | _ => none
theorem sem_is : SemN X (r2 (fun x y H Q => y = .non ∧ Q (.bl (decide (x = .non))) H)) isO := by
  intro F H xs ds res Q al hv e h
  unfold isO at e
  split at e
  · cases e
    obtain ⟨x, y, rfl, h1, h2⟩ := hv.two
    exact ⟨h2.non, by rw [Fz.non_iff h1]; exact h.bl⟩
  · cases e
theorem sem_isnot : SemN X (r2 (fun x y H Q => y = .non ∧ Q (.bl (!decide (x = .non))) H)) isnotO := by
  intro F H xs ds res Q al hv e h
  unfold isnotO at e
  split at e
  · cases e
    obtain ⟨x, y, rfl, h1, h2⟩ := hv.two
    exact ⟨h2.non, by rw [Fz.non_iff h1]; exact h.bl⟩
  · cases e
/-- is True, is not True of bools -/
def isbO : List D → Option Val
  | [.bool a, .bool b] => some (fz (.bool (decide (a = b))))
  | _ => none
def isnotbO : List D → Option Val
  | [.bool a, .bool b] => some (fz (.bool (!decide (a = b))))
  | _ => none
theorem sem_isb : SemN X (r2 rIsB) isbO := by
  intro F H xs ds res Q al hv e h
  unfold isbO at e
  split at e
  · cases e
    obtain ⟨x, y, rfl, h1, h2⟩ := hv.two
    exact ⟨_, _, h1.bl, h2.bl, h.bl⟩
  · cases e
theorem sem_isnotb : SemN X (r2 rNotB) isnotbO := by
  intro F H xs ds res Q al hv e h
  unfold isnotbO at e
  split at e
  · cases e
    obtain ⟨x, y, rfl, h1, h2⟩ := hv.two
    exact ⟨_, _, h1.bl, h2.bl, h.bl⟩
  · cases e
/-! in -/
def flatD : D → Bool
  | .none => true
  | .bool _ => true
  | .int _ => true
  | .str _ => true
  | _ => false
theorem Fz.flat {K : PySem.W.Frag} {F : AS} {H : Hp} {x : V} {d : D} (hd : flatD d = true) (h : Fz K F H x d) : flatV x = true := by
  cases h <;> first | rfl | cases hd
theorem Fz.eqV {K : PySem.W.Frag} {F : AS} {H : Hp} {x y : V} {d e : D} (hd : flatD d = true) (he : flatD e = true) (h : Fz K F H x d) (h' : Fz K F H y e) : eqV x y = PyData.eqv d e := by
  cases h <;> cases h' <;> first | (unfold L2.eqV PyData.eqv; done) | rfl | cases hd | cases he | (simp only [L2.eqV, PyData.eqv]; done) | (simp only [L2.eqV, PyData.eqv]; rfl)
theorem FzL.flat {K : PySem.W.Frag} {F : AS} {H : Hp} : ∀ {xs : List V} {ds : List D}, ds.all flatD = true → FzL K F H xs ds → xs.all flatV = true
  | _, _, _, .nil => rfl
  | _, _, h, .cons a t => by
    rw [List.all_cons, Bool.and_eq_true] at h
    rw [List.all_cons, a.flat h.1, FzL.flat h.2 t]; rfl
theorem FzL.inV {K : PySem.W.Frag} {F : AS} {H : Hp} {x : V} {d : D} (hd : flatD d = true) (hx : Fz K F H x d) : ∀ {xs : List V} {ds : List D}, ds.all flatD = true → FzL K F H xs ds → inV x xs = ds.any fun z => PyData.eqv z d
  | _, _, _, .nil => rfl
  | _, _, h, .cons a t => by
    rw [List.all_cons, Bool.and_eq_true] at h
    have ih := FzL.inV hd hx h.2 t
    unfold L2.inV at ih ⊢
    rw [List.any_cons, List.any_cons, ih, Fz.eqV h.1 hd a hx]
def inO : List D → Option Val
  | [d, .list ds] => if SeqAt.shaped d && SeqAt.shaped (.list ds) then some (fz (.bool (ds.any fun z => PyData.eqv z d))) else none
  | [d, .tuple ds] => if flatD d && ds.all flatD then some (fz (.bool (ds.any fun z => PyData.eqv z d))) else none
  | _ => none
def notinO : List D → Option Val
  | [d, .list ds] => if SeqAt.shaped d && SeqAt.shaped (.list ds) then some (fz (.bool (!ds.any fun z => PyData.eqv z d))) else none
  | [d, .tuple ds] => if flatD d && ds.all flatD then some (fz (.bool (!ds.any fun z => PyData.eqv z d))) else none
  | _ => none
theorem op_inU (hu : X.A.units + 65 < cLine) : OpR X (compareOp .In) (fun x y H Q => rInD X.K x y H Q ∨ rIn X.K false x y H Q) := (op_inD hu).or op_in_seq
theorem op_notinU (hu : X.A.units + 65 < cLine) : OpR X (compareOp .NotIn) (fun x y H Q => rNotInD X.K x y H Q ∨ rIn X.K true x y H Q) := (op_notInD hu).or op_notIn_seq
theorem sem_in : SemN X (r2 (fun x y H Q => rInD X.K x y H Q ∨ rIn X.K false x y H Q)) inO := by
  intro F H xs ds res Q al hv e h
  unfold inO at e
  split at e
  · split at e
    · rename_i hs
      cases e
      rw [Bool.and_eq_true] at hs
      obtain ⟨x, y, rfl, h1, h2⟩ := hv.two
      exact .inl ⟨_, _, dp_of hs.1 h1, dp_of hs.2 h2, hs.1, hs.2, h.bl⟩
    · cases e
  · split at e
    · rename_i hs
      cases e
      rw [Bool.and_eq_true] at hs
      obtain ⟨x, y, rfl, h1, h2⟩ := hv.two
      obtain ⟨a, us, rfl, e1, t1, _⟩ := h2.tup
      cases h1 with
      | fz h1 => exact .inr ⟨_, _, rfl, .inr e1, h1.flat hs.1, t1.flat hs.2, by rw [FzL.inV hs.1 h1 hs.2 t1]; exact h.bl⟩
      | lst _ _ => cases hs.1
      | dK _ _ => cases hs.1
    · cases e
  · cases e
theorem sem_notin : SemN X (r2 (fun x y H Q => rNotInD X.K x y H Q ∨ rIn X.K true x y H Q)) notinO := by
  intro F H xs ds res Q al hv e h
  unfold notinO at e
  split at e
  · split at e
    · rename_i hs
      cases e
      rw [Bool.and_eq_true] at hs
      obtain ⟨x, y, rfl, h1, h2⟩ := hv.two
      exact .inl ⟨_, _, dp_of hs.1 h1, dp_of hs.2 h2, hs.1, hs.2, h.bl⟩
    · cases e
  · split at e
    · rename_i hs
      cases e
      rw [Bool.and_eq_true] at hs
      obtain ⟨x, y, rfl, h1, h2⟩ := hv.two
      obtain ⟨a, us, rfl, e1, t1, _⟩ := h2.tup
      cases h1 with
      | fz h1 => exact .inr ⟨_, _, rfl, .inr e1, h1.flat hs.1, t1.flat hs.2, by rw [FzL.inV hs.1 h1 hs.2 t1]; exact h.bl⟩
      | lst _ _ => cases hs.1
      | dK _ _ => cases hs.1
    · cases e
  · cases e
/-! subscripts, slices -/
def ixO : List D → Option Val
  | [.list ds, .int i] => (atI ds i).map fz
  | [.tuple ds, .int i] => (atI ds i).map fz
  | _ => none
theorem FzL.atI {K : PySem.W.Frag} {F : AS} {H : Hp} {xs : List V} {ds : List D} {i : Int} {d : D} (t : FzL K F H xs ds) (e : atI ds i = some d) : ∃ x, atI xs i = some x ∧ Fz K F H x d := by
  unfold L2.atI at e ⊢
  rw [t.length]
  cases q : ixN ds.length i with
  | none => rw [q] at e; cases e
  | some j => rw [q] at e; exact t.get e
theorem sem_ix : SemN X (r2 (rIx X.K)) ixO := by
  intro F H xs ds res Q al hv e h
  unfold ixO at e
  split at e
  · rename_i ds i
    obtain ⟨x, y, rfl, h1, h2⟩ := hv.two
    obtain ⟨a, us, rfl, e1, t1⟩ := h1.list
    cases h2.int
    cases q : atI ds i with
    | none => rw [q] at e; cases e
    | some d =>
      rw [q] at e; cases e
      obtain ⟨z, ez, fzz⟩ := t1.atI q
      exact .inl ⟨_, _, _, _, rfl, rfl, .inl (.inl e1), ez, h.old fzz (.inl rfl)⟩
  · rename_i ds i
    obtain ⟨x, y, rfl, h1, h2⟩ := hv.two
    obtain ⟨a, us, rfl, e1, t1, _⟩ := h1.tup
    cases h2.int
    cases q : atI ds i with
    | none => rw [q] at e; cases e
    | some d =>
      rw [q] at e; cases e
      obtain ⟨z, ez, fzz⟩ := t1.atI q
      exact .inr (.inl ⟨_, _, _, _, rfl, rfl, e1, ez, h.old fzz (.inl rfl)⟩)
  · cases e
def cutD (ds : List D) (lo hi : Option Int) : List D := (ds.drop (HT.sIx ds.length 0 lo)).take (HT.sIx ds.length ds.length hi - HT.sIx ds.length 0 lo)
theorem FzL.cut {K : PySem.W.Frag} {F : AS} {H : Hp} {xs : List V} {ds : List D} (t : FzL K F H xs ds) (lo hi : Option Int) : FzL K F H (cutV xs lo hi) (cutD ds lo hi) := by
  unfold cutV cutD
  rw [t.length]
  exact (t.drop _).take _
def cutO1 (d : D) (lo hi : Option Int) : Option Val := match d with
  | .list ds => some ⟨.list (cutD ds lo hi), 1⟩
  | .tuple ds => some (fz (.tuple (cutD ds lo hi)))
  | _ => none
def rCutU (K : PySem.W.Frag) : V → Option Int → Option Int → Hp → VK → Prop := fun x lo hi H Q => rSlL K x lo hi H Q ∨ rSlA K x lo hi H Q
theorem sl_U : SlR X (rCutU X.K) := sl_list.or sl_tupA
theorem sem_cut1 {F : AS} {H : Hp} {x : V} {d : D} {lo hi : Option Int} {res : Val} {Q : VK} (al : ∀ a, F a → ∃ u, H a = some u) (hv : Vw X.K F H x d) (e : cutO1 d lo hi = some res) (h : NewV X.K F H res Q) : rCutU X.K x lo hi H Q := by
  unfold cutO1 at e
  split at e
  · cases e
    obtain ⟨a, us, rfl, e1, t1⟩ := hv.list
    exact .inl ⟨_, _, rfl, .inl (.inl e1), h.lst (t1.cut lo hi) al⟩
  · cases e
    obtain ⟨a, us, rfl, e1, t1, f1⟩ := hv.tup
    refine .inr ⟨_, _, rfl, e1, fun hz => ?_, fun _ p hp => h.tup (t1.cut lo hi) p hp⟩
    have ec : ∀ {α : Type} (l : List α), l.length = us.length → (l.drop (HT.sIx l.length 0 lo)).take (HT.sIx l.length l.length hi - HT.sIx l.length 0 lo) = l := by
      intro α l hl
      rw [hl, hz.1, hz.2, List.drop_zero, List.take_of_length_le (by omega)]
    refine h.old ?_ (.inl rfl)
    show Fz _ _ _ _ (.tuple (cutD _ lo hi))
    unfold cutD
    rw [ec _ t1.length.symm]
    exact f1
  · cases e
def cutLoO : List D → Option Val
  | [d, .int i] => cutO1 d (some i) none
  | _ => none
def cutHiO : List D → Option Val
  | [d, .int i] => cutO1 d none (some i)
  | _ => none
def cutO : List D → Option Val
  | [d, .int i, .int j] => cutO1 d (some i) (some j)
  | _ => none
/-! builtins -/
def tupleO : List D → Option Val
  | [.list ds] => some (fz (.tuple ds))
  | [.tuple ds] => some (fz (.tuple ds))
  | _ => none
theorem sem_tuple : SemN X (fun xs H Q => ∃ p ys, xs = [.ref p] ∧ ((SqL X.K H p ys ∧ ∀ l, H l = none → Q (.ref l) (upd H l (.tup ys))) ∨ (SqT X.K H p ys ∧ Q (.ref p) H))) tupleO := by
  intro F H xs ds res Q al hv e h
  unfold tupleO at e
  split at e
  · cases e
    obtain ⟨x, rfl, h1⟩ := hv.one
    obtain ⟨a, us, rfl, e1, t1⟩ := h1.list
    exact ⟨_, _, rfl, .inl ⟨.inl (.inl e1), fun p hp => h.tup t1 p hp⟩⟩
  · cases e
    obtain ⟨x, rfl, h1⟩ := hv.one
    obtain ⟨a, us, rfl, e1, t1, f1⟩ := h1.tup
    exact ⟨_, _, rfl, .inr ⟨e1, h.old f1 (.inl rfl)⟩⟩
  · cases e
def listO : List D → Option Val
  | [.list ds] => some ⟨.list ds, 1⟩
  | [.tuple ds] => some ⟨.list ds, 1⟩
  | _ => none
theorem sem_list : SemN X (fun xs H Q => ∃ p ys, xs = [.ref p] ∧ (SqL X.K H p ys ∨ SqT X.K H p ys) ∧ ∀ l, H l = none → Q (.ref l) (upd H l (.lst ys))) listO := by
  intro F H xs ds res Q al hv e h
  unfold listO at e
  split at e
  · cases e
    obtain ⟨x, rfl, h1⟩ := hv.one
    obtain ⟨a, us, rfl, e1, t1⟩ := h1.list
    exact ⟨_, _, rfl, .inl (.inl (.inl e1)), h.lst t1 al⟩
  · cases e
    obtain ⟨x, rfl, h1⟩ := hv.one
    obtain ⟨a, us, rfl, e1, t1, f1⟩ := h1.tup
    exact ⟨_, _, rfl, .inr e1, h.lst t1 al⟩
  · cases e
def lenO : List D → Option Val
  | [.list ds] => some (fz (.int ds.length))
  | [.tuple ds] => some (fz (.int ds.length))
  | [.dict ds] => some (fz (.int ds.length))
  | [.str z] => if z.length ≤ sizeLine then some (fz (.int z.length)) else none
  | _ => none
theorem FzK.length {K : PySem.W.Frag} {F : AS} {H : Hp} : ∀ {xs : List (Key × V)} {ds : List (D × D)}, FzK K F H xs ds → xs.length = ds.length
  | _, _, .nil => rfl
  | _, _, .cons _ t => congrArg (· + 1) (FzK.length t)
theorem call_lenU : CallR X (.builtin "len") (fun xs H Q => (∃ x n, xs = [x] ∧ LenV X.K x H n ∧ Q (.int n) H) ∨ ∃ a kvs, xs = [V.ref a] ∧ H a = some (.dK kvs) ∧ Q (.int kvs.length) H) := call_len.or call_lenD
theorem sem_len : SemN X (fun xs H Q => (∃ x n, xs = [x] ∧ LenV X.K x H n ∧ Q (.int n) H) ∨ ∃ a kvs, xs = [V.ref a] ∧ H a = some (.dK kvs) ∧ Q (.int kvs.length) H) lenO := by
  intro F H xs ds res Q al hv e h
  unfold lenO at e
  split at e
  · cases e
    obtain ⟨x, rfl, h1⟩ := hv.one
    obtain ⟨a, us, rfl, e1, t1⟩ := h1.list
    exact .inl ⟨_, _, rfl, .inl ⟨_, .inl (.inl e1), t1.length.symm⟩, h.int⟩
  · cases e
    obtain ⟨x, rfl, h1⟩ := hv.one
    obtain ⟨a, us, rfl, e1, t1, f1⟩ := h1.tup
    exact .inl ⟨_, _, rfl, .inr ⟨_, e1, t1.length.symm⟩, h.int⟩
  · cases e
    obtain ⟨x, rfl, h1⟩ := hv.one
    obtain ⟨a, us, rfl, e1, t1⟩ := h1.dict
    exact .inr ⟨_, _, rfl, e1, by rw [t1.length]; exact h.int⟩
  · split at e
    · cases e
      obtain ⟨x, rfl, h1⟩ := hv.one
      cases h1.str
      exact .inl ⟨_, _, rfl, ⟨by assumption, rfl⟩, h.int⟩
    · cases e
  · cases e
def absO : List D → Option Val
  | [.int i] => some (fz (.int (if i < 0 then -i else i)))
  | _ => none
theorem sem_abs : SemN X (fun xs H Q => ∃ i, xs = [.int i] ∧ Q (.int (if i < 0 then -i else i)) H) absO := by
  intro F H xs ds res Q al hv e h
  unfold absO at e
  split at e
  · cases e
    obtain ⟨x, rfl, h1⟩ := hv.one
    cases h1.int
    exact ⟨_, rfl, h.int⟩
  · cases e
def intO : List D → Option Val
  | [.int i] => some (fz (.int i))
  | [.bool b] => some (fz (.int (if b then 1 else 0)))
  | _ => none
theorem sem_int : SemN X (fun xs H Q => (∃ i, xs = [.int i] ∧ Q (.int i) H) ∨ ∃ k, xs = [.bl k] ∧ Q (.int (if k then 1 else 0)) H) intO := by
  intro F H xs ds res Q al hv e h
  unfold intO at e
  split at e
  · cases e
    obtain ⟨x, rfl, h1⟩ := hv.one
    cases h1.int
    exact .inl ⟨_, rfl, h.int⟩
  · cases e
    obtain ⟨x, rfl, h1⟩ := hv.one
    cases h1.bl
    exact .inr ⟨_, rfl, h.int⟩
  · cases e
def max2O : List D → Option Val
  | [.int i, .int j] => some (fz (.int (if j > i then j else i)))
  | _ => none
theorem sem_max2 : SemN X (fun xs H Q => ∃ i j, xs = [.int i, .int j] ∧ Q (.int (if j > i then j else i)) H) max2O := by
  intro F H xs ds res Q al hv e h
  unfold max2O at e
  split at e
  · cases e
    obtain ⟨x, y, rfl, h1, h2⟩ := hv.two
    cases h1.int; cases h2.int
    exact ⟨_, _, rfl, h.int⟩
  · cases e
def min2O : List D → Option Val
  | [.int i, .int j] => some (fz (.int (if j < i then j else i)))
  | _ => none
theorem sem_min2 : SemN X (fun xs H Q => ∃ i j, xs = [.int i, .int j] ∧ Q (.int (if j < i then j else i)) H) min2O := by
  intro F H xs ds res Q al hv e h
  unfold min2O at e
  split at e
  · cases e
    obtain ⟨x, y, rfl, h1, h2⟩ := hv.two
    cases h1.int; cases h2.int
    exact ⟨_, _, rfl, h.int⟩
  · cases e
def gcdO : List D → Option Val
  | [.int i, .int j] => some (fz (.int ((Nat.gcd i.natAbs j.natAbs : Nat) : Int)))
  | _ => none
theorem sem_gcd : SemN X rGcd gcdO := by
  intro F H xs ds res Q al hv e h
  unfold gcdO at e
  split at e
  · cases e
    obtain ⟨x, y, rfl, h1, h2⟩ := hv.two
    cases h1.int; cases h2.int
    exact ⟨_, _, rfl, h.int⟩
  · cases e
/-- the ints of a row of data, if all are -/
def intsD : List D → Option (List Int)
  | [] => some []
  | .int i :: ds => (intsD ds).map fun l => i :: l
  | _ => none
theorem FzL.intsD {K : PySem.W.Frag} {F : AS} {H : Hp} : ∀ {xs : List V} {ds : List D} {ns : List Int}, FzL K F H xs ds → intsD ds = some ns → xs = ns.map V.int
  | _, _, _, .nil, e => by cases e; rfl
  | _, d :: ds, ns, .cons (x := x) a t, e => by
    cases d with
    | int i =>
      unfold Dn.intsD at e
      cases q : Dn.intsD ds with
      | none => rw [q] at e; cases e
      | some l =>
        rw [q] at e; cases e
        cases a
        rw [FzL.intsD t q]; rfl
    | _ => unfold Dn.intsD at e; cases e
theorem FzL.ints {K : PySem.W.Frag} {F : AS} {H : Hp} : ∀ ns : List Int, FzL K F H (ns.map V.int) (ns.map PyData.int)
  | [] => .nil
  | i :: ns => .cons (.int i) (FzL.ints ns)
def sumO : List D → Option Val
  | [.list ds] => (intsD ds).map fun ns => fz (.int ns.sum)
  | _ => none
theorem sem_sum : SemN X (rSum X.K) sumO := by
  intro F H xs ds res Q al hv e h
  unfold sumO at e
  split at e
  · rename_i ds
    cases q : intsD ds with
    | none => rw [q] at e; cases e
    | some ns =>
      rw [q] at e; cases e
      obtain ⟨x, rfl, h1⟩ := hv.one
      obtain ⟨a, us, rfl, e1, t1⟩ := h1.list
      exact ⟨_, _, rfl, .inl (.inl (by rw [← t1.intsD q]; exact e1)), h.int⟩
  · cases e
def boolsD : List D → Option (List Bool)
  | [] => some []
  | .bool i :: ds => (boolsD ds).map fun l => i :: l
  | _ => none
theorem FzL.boolsD {K : PySem.W.Frag} {F : AS} {H : Hp} : ∀ {xs : List V} {ds : List D} {ns : List Bool}, FzL K F H xs ds → boolsD ds = some ns → xs = ns.map V.bl
  | _, _, _, .nil, e => by cases e; rfl
  | _, d :: ds, ns, .cons (x := x) a t, e => by
    cases d with
    | bool i =>
      unfold Dn.boolsD at e
      cases q : Dn.boolsD ds with
      | none => rw [q] at e; cases e
      | some l =>
        rw [q] at e; cases e
        cases a
        rw [FzL.boolsD t q]; rfl
    | _ => unfold Dn.boolsD at e; cases e
def anyO : List D → Option Val
  | [.list ds] => (boolsD ds).map fun ns => fz (.bool (ns.any id))
  | _ => none
theorem sem_any : SemN X (rAny X.K) anyO := by
  intro F H xs ds res Q al hv e h
  unfold anyO at e
  split at e
  · rename_i ds
    cases q : boolsD ds with
    | none => rw [q] at e; cases e
    | some ns =>
      rw [q] at e; cases e
      obtain ⟨x, rfl, h1⟩ := hv.one
      obtain ⟨a, us, rfl, e1, t1⟩ := h1.list
      exact ⟨_, _, rfl, .inl (.inl (by rw [← t1.boolsD q]; exact e1)), h.bl⟩
  · cases e
def allO : List D → Option Val
  | [.list ds] => (boolsD ds).map fun ns => fz (.bool (ns.all id))
  | _ => none
theorem sem_all : SemN X (rAll X.K) allO := by
  intro F H xs ds res Q al hv e h
  unfold allO at e
  split at e
  · rename_i ds
    cases q : boolsD ds with
    | none => rw [q] at e; cases e
    | some ns =>
      rw [q] at e; cases e
      obtain ⟨x, rfl, h1⟩ := hv.one
      obtain ⟨a, us, rfl, e1, t1⟩ := h1.list
      exact ⟨_, _, rfl, .inl (.inl (by rw [← t1.boolsD q]; exact e1)), h.bl⟩
  · cases e
end
end Dn
end
section
set_option Elab.async false
set_option linter.all false
set_option maxRecDepth 100000
set_option maxHeartbeats 4000000
namespace Dn
open PySem L2
section
variable {K : PySem.W.Frag} {J : List Nat} {σ0 : St} {F F' F1 F2 : AS} {H H' H1 H2 : Hp} {env env' env1 : Ev} {σ σ' : St} {O O' O1 O2 : Nat → AS} {R R1 R2 L L1 L2 : AS}
/-! ### the state's steps -/
theorem Sta.freeze (s : Sta K J σ0 F H env σ O) {i : Nat} {v : Val} (e : env[i]? = some (some v)) :
    Sta K J σ0 (fun a => F a ∨ O i a) H (env.set i (some (fz v.d))) σ (fun j a => O j a ∧ j ≠ i) := by
  obtain ⟨x, ex, w⟩ := s.slot i v e
  have hi : i < env.length := (List.getElem?_eq_some_iff.mp e).1
  refine ⟨fun j u ej => ?_, fun j a h => ?_, fun j k a h1 h2 => s.disj j k a h1.1 h2.1, fun a f => ?_, s.pin, by rw [List.length_set]; exact s.len⟩
  · by_cases hj : j = i
    · subst hj
      rw [List.getElem?_set_self hi] at ej
      cases ej
      exact ⟨x, ex, .fz (w.freeze (fun _ f => .inl f) fun _ o => .inr o) (.inl rfl) fun a z => z.2 rfl⟩
    · rw [List.getElem?_set_ne (Ne.symm hj)] at ej
      obtain ⟨y, ey, w'⟩ := s.slot j u ej
      have w2 := w'.mono (F' := fun a => F a ∨ O i a) (H' := H) (fun _ f => .inl f) (fun _ _ _ q => q) (fun _ _ _ q => q) fun a z f => by
        rcases f with f | f
        · exact (w'.alloc a z).2 f
        · exact hj (s.disj _ _ a z f)
      refine ⟨y, ey, ?_⟩
      have eO : (fun a => O j a ∧ j ≠ i) = O j := by funext a; exact propext ⟨fun z => z.1, fun z => ⟨z, hj⟩⟩
      rw [eO]
      exact w2
  · obtain ⟨u, e2⟩ := s.emp j a h.1
    exact ⟨u, by rw [List.getElem?_set_ne (Ne.symm h.2)]; exact e2⟩
  · rcases f with f | f
    · exact s.al a f
    · exact (w.alloc a f).1
/-- a slot is stored -/
theorem Sta.store (s : Sta K J σ0 F H env σ O) {i : Nat} {v : Val} {x : V} (hJ : i ∉ J) (w : Ow K F H v.n x v.d R) (hd : ∀ a, Tot O a → R a → False) :
    Sta K J σ0 F H (env.set i (some v)) (σ.set i (some x)) (fun j a => (O j a ∧ j ≠ i) ∨ (R a ∧ j = i ∧ i < env.length)) := by
  refine ⟨fun j u ej => ?_, fun j a h => ?_, fun j k a h1 h2 => ?_, s.al, fun j hj => ?_, by rw [List.length_set, List.length_set]; exact s.len⟩
  · by_cases hj : j = i
    · subst hj
      have hi : j < env.length := by
        have := (List.getElem?_eq_some_iff.mp ej).1
        rwa [List.length_set] at this
      rw [List.getElem?_set_self hi] at ej
      cases ej
      refine ⟨x, List.getElem?_set_self (by rw [s.len]; exact hi), ?_⟩
      have eO : (fun a => (O j a ∧ j ≠ j) ∨ (R a ∧ j = j ∧ j < env.length)) = R := by
        funext a
        refine propext ⟨fun z => z.elim (fun y => (y.2 rfl).elim) fun y => y.1, fun z => .inr ⟨z, rfl, hi⟩⟩
      rw [eO]
      exact w
    · rw [List.getElem?_set_ne (Ne.symm hj)] at ej
      obtain ⟨y, ey, w'⟩ := s.slot j u ej
      refine ⟨y, by rw [List.getElem?_set_ne (Ne.symm hj)]; exact ey, ?_⟩
      have eO : (fun a => (O j a ∧ j ≠ i) ∨ (R a ∧ j = i ∧ i < env.length)) = O j := by
        funext a
        exact propext ⟨fun z => z.elim (fun y => y.1) fun y => (hj y.2.1).elim, fun z => .inl ⟨z, hj⟩⟩
      rw [eO]
      exact w'
  · rcases h with h | h
    · obtain ⟨u, e2⟩ := s.emp j a h.1
      exact ⟨u, by rw [List.getElem?_set_ne (Ne.symm h.2)]; exact e2⟩
    · obtain ⟨_, rfl, hi⟩ := h
      exact ⟨v, List.getElem?_set_self hi⟩
  · rcases h1 with h1 | h1 <;> rcases h2 with h2 | h2
    · exact s.disj j k a h1.1 h2.1
    · exact (hd a ⟨j, h1.1⟩ h2.1).elim
    · exact (hd a ⟨k, h2.1⟩ h1.1).elim
    · rw [h1.2.1, h2.2.1]
  · rw [List.getElem?_set_ne (fun z => hJ (by rw [z]; exact hj))]
    exact s.pin j hj
theorem Tot.store {i : Nat} {n : Prop} : ∀ a, Tot (fun j a => (O j a ∧ j ≠ i) ∨ (R a ∧ j = i ∧ n)) a → Tot O a ∨ R a := fun a ⟨j, h⟩ => h.elim (fun z => .inl ⟨j, z.1⟩) fun z => .inr z.1
/-- a slot is given away -/
theorem Sta.drop (s : Sta K J σ0 F H env σ O) (i : Nat) : Sta K J σ0 F H (env.set i none) σ (fun j a => O j a ∧ j ≠ i) := by
  refine ⟨fun j u ej => ?_, fun j a h => ?_, fun j k a h1 h2 => s.disj j k a h1.1 h2.1, s.al, s.pin, by rw [List.length_set]; exact s.len⟩
  · by_cases hj : j = i
    · subst hj
      have hi : j < env.length := by
        have := (List.getElem?_eq_some_iff.mp ej).1
        rwa [List.length_set] at this
      rw [List.getElem?_set_self hi] at ej
      cases ej
    · rw [List.getElem?_set_ne (Ne.symm hj)] at ej
      obtain ⟨y, ey, w'⟩ := s.slot j u ej
      refine ⟨y, ey, ?_⟩
      have eO : (fun a => O j a ∧ j ≠ i) = O j := by funext a; exact propext ⟨fun z => z.1, fun z => ⟨z, hj⟩⟩
      rw [eO]
      exact w'
  · obtain ⟨u, e2⟩ := s.emp j a h.1
    exact ⟨u, by rw [List.getElem?_set_ne (Ne.symm h.2)]; exact e2⟩
/-- temporaries become frozen -/
theorem Sta.freezeR (s : Sta K J σ0 F H env σ O) (al : ∀ a, R a → ∃ o, H a = some o) (hd : ∀ a, Tot O a → R a → False) : Sta K J σ0 (fun a => F a ∨ R a) H env σ O := by
  refine ⟨fun j u ej => ?_, s.emp, s.disj, fun a f => f.elim (s.al a) (al a), s.pin, s.len⟩
  obtain ⟨y, ey, w'⟩ := s.slot j u ej
  refine ⟨y, ey, w'.mono (fun _ f => .inl f) (fun _ _ _ q => q) (fun _ _ _ q => q) fun a z f => ?_⟩
  rcases f with f | f
  · exact (w'.alloc a z).2 f
  · exact hd a ⟨j, z⟩ f

/-! ### expressions -/
def nmE (i : Nat) : RE := fun env => (at_ env i).map fun v => (fz v.d, if v.n = 0 then env else env.set i (some (fz v.d)))
def mvE (i : Nat) : RE := fun env => (at_ env i).map fun v => (v, env.set i none)
def cE (d : D) : RE := fun env => some (fz d, env)
def fzE (f : RE) : RE := fun env => (f env).map fun p => (fz p.1.d, p.2)
theorem at_some {i : Nat} {v : Val} (e : at_ env i = some v) : env[i]? = some (some v) := by
  unfold at_ at e
  cases q : env[i]? with
  | none => rw [q] at e; cases e
  | some o =>
    rw [q] at e
    cases o with
    | none => cases e
    | some u => cases e; rfl
theorem fzE_post {Q : VK} {σ : St} {L : AS} : ∀ {r : Option (Val × Ev)}, PostE K J σ0 σ Q F H L (r.map fun p => (fz p.1.d, p.2)) → PostE K J σ0 σ Q F H L r
  | none, h => h
  | some (v, env'), h => fun x F' H' O' R st s w d => by
    refine h x (fun a => F' a ∨ R a) H' O' (fun _ => False) ⟨fun a f => .inl (st.mono a f), fun a f => ?_, fun a z => ?_, st.keep, st.there⟩ (s.freezeR (fun a r => (w.alloc a r).1) d) (.fz (w.freeze (fun _ f => .inl f) fun _ r => .inr r) (.inl rfl) fun _ z => z) fun _ _ z => z
    · rcases f with f | f
      · exact st.grow a f
      · rcases st.own a (.inr f) with z | z
        · exact .inr (.inl z)
        · exact .inr (.inr z)
    · rcases z with z | z
      · exact st.own a (.inl z)
      · exact z.elim
end
section
variable {X : Cx} {J : List Nat} {σ0 : St} {e a b c : Expr} {pos : Pos} {f g : RE} {tc : RT}
theorem e_fz (h : PE X e (rdE X.K J σ0 f)) : PE X e (rdE X.K J σ0 (fzE f)) := h.conseq fun σ H Q ⟨F, env, O, s, p⟩ => ⟨F, env, O, s, fzE_post p⟩
theorem e_nm {i : Nat} (h : PE X e (tVar i)) : PE X e (rdE X.K J σ0 (nmE i)) := h.conseq fun σ H Q ⟨F, env, O, s, p⟩ => by
  unfold nmE at p
  cases q : at_ env i with
  | none => rw [q] at p; exact p.elim
  | some v =>
    rw [q] at p
    have ev := at_some q
    obtain ⟨x, ex, w⟩ := s.slot i v ev
    refine ⟨x, ex, ?_⟩
    by_cases hn : v.n = 0
    · have p' : PostE X.K J σ0 σ Q F H (Tot O) (some (fz v.d, env)) := by rw [Option.map_some, if_pos hn] at p; exact p
      have w0 : Fz X.K F H x v.d := by
        obtain ⟨d, n⟩ := v
        have hn' : n = 0 := hn
        subst hn'
        cases w with
        | fz h _ _ => exact h
      exact p' x F H O (fun _ => False) (.refl _ _ _ _ fun a z => z.elim id False.elim) s (.of_fz w0) fun _ _ z => z
    · have p' : PostE X.K J σ0 σ Q F H (Tot O) (some (fz v.d, env.set i (some (fz v.d)))) := by rw [Option.map_some, if_neg hn] at p; exact p
      refine p' x (fun a => F a ∨ O i a) H _ (fun _ => False) ⟨fun _ f => .inl f, fun a f => f.elim .inl fun z => .inr (.inl ⟨i, z⟩), fun a z => ?_, fun _ _ q _ => q, fun _ o q => ⟨o, q⟩⟩ (s.freeze ev) (.of_fz (w.freeze (fun _ f => .inl f) fun _ o => .inr o)) fun _ _ z => z
      rcases z with ⟨j, z⟩ | z
      · exact .inl ⟨j, z.1⟩
      · exact z.elim
theorem e_mv {i : Nat} (h : PE X e (tVar i)) : PE X e (rdE X.K J σ0 (mvE i)) := h.conseq fun σ H Q ⟨F, env, O, s, p⟩ => by
  unfold mvE at p
  cases q : at_ env i with
  | none => rw [q] at p; exact p.elim
  | some v =>
    rw [q] at p
    have ev := at_some q
    obtain ⟨x, ex, w⟩ := s.slot i v ev
    refine ⟨x, ex, p x F H _ (O i) (.refl _ _ _ _ fun a z => ?_) (s.drop i) w fun a ⟨j, z⟩ r => z.2 (s.disj _ _ a z.1 r)⟩
    rcases z with ⟨j, z⟩ | z
    · exact ⟨j, z.1⟩
    · exact ⟨i, z⟩
theorem e_c {v : V} {d : D} (h : PE X e (tC v)) (hf : ∀ F H, Fz X.K F H v d) : PE X e (rdE X.K J σ0 (cE d)) := h.conseq fun σ H Q ⟨F, env, O, s, p⟩ =>
  p v F H O (fun _ => False) (.refl _ _ _ _ fun a z => z.elim id False.elim) s (.of_fz (hf F H)) fun _ _ z => z
theorem e_int {i : Int} {j} : PE X (.Constant (.int i) j pos) (rdE X.K J σ0 (cE (.int i))) := e_c pe_int fun _ _ => .int i
theorem e_bl {b : Bool} {j} : PE X (.Constant (.bool b) j pos) (rdE X.K J σ0 (cE (.bool b))) := e_c pe_bl fun _ _ => .bl b
theorem e_str {b : Str} {j} : PE X (.Constant (.str b) j pos) (rdE X.K J σ0 (cE (.str b))) := e_c pe_str fun _ _ => .str b
theorem e_non {j} : PE X (.Constant .none j pos) (rdE X.K J σ0 (cE .none)) := e_c pe_non fun _ _ => .non
/-! operators -/
variable {oa ob oc : Opd}
theorem e_bin {op : Operator} {r : R2} {o : List D → Option Val} (ho : OpR X (binaryOp op) r) (hs : SemN X (r2 r) o) (ha : PE X a (tO X.K J σ0 oa)) (hb : PE X b (tO X.K J σ0 ob)) : PE X (.BinOp a op b pos) (rdE X.K J σ0 (opN o [oa, ob])) :=
  (pe_op ho ha hb).conseq fun σ H Q h => (op_run hs h : tCB (r2 r) (tOs X.K J σ0 [oa, ob]) σ H Q)
theorem e_un {op : UnaryOp} {r : V → Hp → VK → Prop} {o : List D → Option Val} (ho : UnR X (unaryOp op) r) (hs : SemN X (r1' r) o) (ha : PE X a (tO X.K J σ0 oa)) : PE X (.UnaryOp op a pos) (rdE X.K J σ0 (opN o [oa])) :=
  (pe_un ho ha).conseq fun σ H Q h => (op_run hs h : tCB (r1' r) (tOs X.K J σ0 [oa]) σ H Q)
theorem e_cmp {op : CmpOp} {r : R2} {o : List D → Option Val} (ho : OpR X (compareOp op) r) (hs : SemN X (r2 r) o) (hm : behindInMarks op b = false) (ha : PE X a (tO X.K J σ0 oa)) (hb : PE X b (tO X.K J σ0 ob)) : PE X (.Compare a [op] [b] pos) (rdE X.K J σ0 (opN o [oa, ob])) :=
  (pe_cmpR ho ha hb hm).conseq fun σ H Q h => (op_run hs h : tCB (r2 r) (tOs X.K J σ0 [oa, ob]) σ H Q)
theorem e_ix (hs : PlainIx b) (ha : PE X a (tO X.K J σ0 oa)) (hb : PE X b (tO X.K J σ0 ob)) : PE X (.Subscript a b pos) (rdE X.K J σ0 (opN ixO [oa, ob])) :=
  (pe_ix ix_seq ha hb hs).conseq fun σ H Q h => (op_run sem_ix h : tCB (r2 (rIx X.K)) (tOs X.K J σ0 [oa, ob]) σ H Q)
def rLo (K : PySem.W.Frag) : List V → Hp → VK → Prop := fun xs H Q => match xs with
  | [x, y] => ∃ i, y = .int i ∧ rCutU K x (some i) none H Q
  | _ => False
def rHi (K : PySem.W.Frag) : List V → Hp → VK → Prop := fun xs H Q => match xs with
  | [x, y] => ∃ i, y = .int i ∧ rCutU K x none (some i) H Q
  | _ => False
def rLH (K : PySem.W.Frag) : List V → Hp → VK → Prop := fun xs H Q => match xs with
  | [x, y, z] => ∃ i, y = .int i ∧ ∃ j, z = .int j ∧ rCutU K x (some i) (some j) H Q
  | _ => False
theorem sem_lo : SemN X (rLo X.K) cutLoO := by
  intro F H xs ds res Q al hv e h
  unfold cutLoO at e
  split at e
  · obtain ⟨x, y, rfl, h1, h2⟩ := hv.two
    cases h2.int
    exact ⟨_, rfl, sem_cut1 al h1 e h⟩
  · cases e
theorem sem_hi : SemN X (rHi X.K) cutHiO := by
  intro F H xs ds res Q al hv e h
  unfold cutHiO at e
  split at e
  · obtain ⟨x, y, rfl, h1, h2⟩ := hv.two
    cases h2.int
    exact ⟨_, rfl, sem_cut1 al h1 e h⟩
  · cases e
theorem sem_lh : SemN X (rLH X.K) cutO := by
  intro F H xs ds res Q al hv e h
  unfold cutO at e
  split at e
  · obtain ⟨x, ys, rfl, h1, t⟩ := hv.cons'
    obtain ⟨y, z, rfl, h2, h3⟩ := t.two
    cases h2.int
    cases h3.int
    exact ⟨_, rfl, _, rfl, sem_cut1 al h1 e h⟩
  · cases e
variable {p2 : Pos}
theorem e_lo (ha : PE X a (tO X.K J σ0 oa)) (hb : PE X b (tO X.K J σ0 ob)) : PE X (.Subscript a (.Slice (some b) none none p2) pos) (rdE X.K J σ0 (opN cutLoO [oa, ob])) :=
  (pe_slice sl_U ha (po_some hb) po_none).conseq fun σ H Q h => (op_run sem_lo h : tCB (rLo X.K) (tOs X.K J σ0 [oa, ob]) σ H Q)
theorem e_hi (ha : PE X a (tO X.K J σ0 oa)) (hb : PE X b (tO X.K J σ0 ob)) : PE X (.Subscript a (.Slice none (some b) none p2) pos) (rdE X.K J σ0 (opN cutHiO [oa, ob])) :=
  (pe_slice sl_U ha po_none (po_some hb)).conseq fun σ H Q h => (op_run sem_hi h : tCB (rHi X.K) (tOs X.K J σ0 [oa, ob]) σ H Q)
/-! arguments, builtins -/
variable {es : List Expr} {os : List Opd}
theorem a_nil : PA X [] (tOs X.K J σ0 []) := pa_nil
theorem a_cons (ha : PE X e (tO X.K J σ0 oa)) (hr : PA X es (tOs X.K J σ0 os)) (hs : starEach (e :: es) X.env = (false, eval e X.env) :: starEach es X.env := by rfl) : PA X (e :: es) (tOs X.K J σ0 (oa :: os)) := pa_cons ha hr hs
theorem e_op {r : List V → Hp → VK → Prop} {o : List D → Option Val} (h : PE X e (tCB r (tOs X.K J σ0 os))) (hs : SemN X r o) : PE X e (rdE X.K J σ0 (opN o os)) := h.conseq fun σ H Q h => op_run hs h
/-! displays: frozen items -/
def rsF : List (Sum Nat Val) → Option (List D)
  | [] => some []
  | .inl _ :: _ => none
  | .inr v :: ps => if v.n = 0 then (rsF ps).map fun ds => v.d :: ds else none
def opF (o : List D → Option Val) (os : List Opd) : RE := fun env => (rN os env).bind fun p => (rsF p.1).bind fun ds => (o ds).map fun r => (r, p.2)
theorem rsF_fz {K : PySem.W.Frag} {F : AS} {H : Hp} {σ : St} : ∀ {xs : List V} {ps : List (Sum Nat Val)} {ds : List D} {R : AS}, OpsAt K F H σ xs ps R → rsF ps = some ds → FzL K F H xs ds
  | _, _, _, _, .nil _, e => by cases e; exact .nil
  | _, .inl _ :: _, _, _, .cons _ _ _ _, e => by cases e
  | _, .inr v :: ps, _, _, .cons h t _ _, e => by
    unfold rsF at e
    split at e
    · rename_i hn
      cases q : rsF ps with
      | none => rw [q] at e; cases e
      | some ds =>
        rw [q] at e; cases e
        refine .cons ?_ (rsF_fz t q)
        obtain ⟨d, n⟩ := v
        have h' : Ow K F H n _ d _ := h
        have hn' : n = 0 := hn
        subst hn'
        cases h' with
        | fz h _ _ => exact h
    · cases e
def SemF (X : Cx) (r : List V → Hp → VK → Prop) (o : List D → Option Val) : Prop :=
  ∀ (F : AS) (H : Hp) (xs : List V) (ds : List D) (res : Val) (Q : VK), (∀ a, F a → ∃ u, H a = some u) → FzL X.K F H xs ds → o ds = some res → NewV X.K F H res Q → r xs H Q
theorem opF_run {σ : St} {H : Hp} {r : List V → Hp → VK → Prop} {o : List D → Option Val} {os : List Opd} {Q : VK} (hr : SemF X r o) (h : rdE X.K J σ0 (opF o os) σ H Q) : tCB r (tOs X.K J σ0 os) σ H Q := by
  obtain ⟨F, env, O, s, h⟩ := h
  unfold opF at h
  cases q : rN os env with
  | none => rw [q] at h; exact h.elim
  | some p =>
    obtain ⟨ps, env1⟩ := p
    rw [q] at h
    dsimp only [Option.bind] at h
    cases q2 : rsF ps with
    | none => rw [q2] at h; exact h.elim
    | some ds =>
      rw [q2] at h
      dsimp only at h
      cases q3 : o ds with
      | none => rw [q3] at h; exact h.elim
      | some res =>
        rw [q3] at h
        refine tOs_run s q fun xs F1 H1 O1 R1 st1 s1 w1 d1 => ?_
        refine hr F1 H1 xs ds res Q s1.al (rsF_fz w1 q2) q3 fun z F' H' R hH hF hg hR w => ?_
        refine h z F' H' O1 R ⟨fun a f => hF a (st1.mono a f), fun a f => ?_, fun a t => ?_, fun a u e n => hH a u (st1.keep a u e n), fun a u e => ?_⟩ (s1.grown hH hF hg) w fun a t r => ?_
        · rcases hg a f with z | ⟨z, _⟩
          · exact st1.grow a z
          · exact .inr (.inr (none_of_there st1.there z))
        · rcases t with t | t
          · exact st1.own a (.inl t)
          · exact .inr (none_of_there st1.there (hR a t))
        · obtain ⟨u', e'⟩ := st1.there a u e
          exact ⟨u', hH a u' e'⟩
        · obtain ⟨⟨u, e⟩, _⟩ := s1.own t
          rw [hR a r] at e; cases e
def tupD (ds : List D) : Option Val := if ds.length ≤ sizeLine then some (fz (.tuple ds)) else none
def lstD (ds : List D) : Option Val := if ds.length ≤ sizeLine then some ⟨.list ds, 1⟩ else none
theorem semF_tup : SemF X (fun xs H1 Q => xs.length ≤ sizeLine ∧ ∀ p, H1 p = none → Q (.ref p) (upd H1 p (.tup xs))) tupD := by
  intro F H xs ds res Q al hv e h
  unfold tupD at e
  split at e
  · rename_i hz
    cases e
    exact ⟨by rw [hv.length]; exact hz, fun p hp => h.tup hv p hp⟩
  · cases e
theorem semF_lst : SemF X (fun xs H1 Q => xs.length ≤ sizeLine ∧ ∀ p, H1 p = none → Q (.ref p) (upd H1 p (.lst xs))) lstD := by
  intro F H xs ds res Q al hv e h
  unfold lstD at e
  split at e
  · rename_i hz
    cases e
    exact ⟨by rw [hv.length]; exact hz, fun p hp => h.lst hv al p hp⟩
  · cases e
theorem e_tup {k} (h : PA X es (tOs X.K J σ0 os)) : PE X (.Tuple es k pos) (rdE X.K J σ0 (opF tupD os)) := (pe_tup h).conseq fun σ H Q h => (opF_run semF_tup h : tCB _ (tOs X.K J σ0 os) σ H Q)
theorem e_lst (h : PA X es (tOs X.K J σ0 os)) : PE X (.List es pos) (rdE X.K J σ0 (opF lstD os)) := (pe_lst h).conseq fun σ H Q h => (opF_run semF_lst h : tCB _ (tOs X.K J σ0 os) σ H Q)
/-! tests -/
def tst (f : RE) : RT := fun env => (f env).bind fun p => match p.1.d with
  | .bool b => some (b, p.2)
  | _ => none
theorem tst_run {σ : St} {H : Hp} {Q : Bool → Hp → Prop} (h : rdT X.K J σ0 (tst f) σ H Q) : rdE X.K J σ0 f σ H fun x H1 => ∃ c, x = .bl c ∧ Q c H1 := by
  obtain ⟨F, env, O, s, h⟩ := h
  refine ⟨F, env, O, s, ?_⟩
  unfold tst at h
  cases q : f env with
  | none => rw [q] at h; exact h
  | some p =>
    obtain ⟨⟨d, n⟩, env1⟩ := p
    rw [q] at h
    dsimp only [Option.bind] at h
    cases d with
    | bool b =>
      intro x F' H' O' R st s' w d
      refine ⟨b, ?_, h F' H' O' (st.less fun a z => .inl z) s'⟩
      cases w with
      | fz w _ _ => cases w; rfl
    | _ => exact h.elim
theorem t_val (h : PE X e (rdE X.K J σ0 f)) (he : ∀ whole, isTrue e X.env whole = (do let v ← whole; standAt e.pos; holding [v] (truthy v)) := by intro _; rfl) : PT X e (rdT X.K J σ0 (tst f)) :=
  (pt_val h he).conseq fun σ H Q h => tst_run h
theorem t_cmp {op : CmpOp} {r : R2} {o : List D → Option Val} (ho : OpR X (compareOp op) r) (hs : SemN X (r2 r) o) (hm : behindInMarks op b = false) (ha : PE X a (tO X.K J σ0 oa)) (hb : PE X b (tO X.K J σ0 ob)) : PT X (.Compare a [op] [b] pos) (rdT X.K J σ0 (tst (opN o [oa, ob]))) :=
  (pt_cmpR ho ha hb hm).conseq fun σ H Q h => (op_run hs (tst_run h) : tCB (r2 r) (tOs X.K J σ0 [oa, ob]) σ H _)
def notT (t : RT) : RT := fun env => (t env).map fun p => (!p.1, p.2)
def andT (t u : RT) : RT := fun env => (t env).bind fun p => if p.1 = true then u p.2 else some (false, p.2)
def orT (t u : RT) : RT := fun env => (t env).bind fun p => if p.1 = true then some (true, p.2) else u p.2
variable {ta tb : RT} {rest : List Expr}
theorem rdT_bind {σ : St} {H : Hp} {k : Bool → RT} {Q Q2 : Bool → Hp → Prop} (h : rdT X.K J σ0 (fun env => (ta env).bind fun p => k p.1 p.2) σ H Q) (hk : ∀ b H1, rdT X.K J σ0 (k b) σ H1 Q → Q2 b H1) : rdT X.K J σ0 ta σ H Q2 := by
  obtain ⟨F, env, O, s, h⟩ := h
  refine ⟨F, env, O, s, ?_⟩
  cases q : ta env with
  | none => dsimp only at h; rw [q] at h; exact h
  | some p =>
    obtain ⟨b, env1⟩ := p
    dsimp only at h
    rw [q] at h
    intro F' H' O' st s'
    exact hk b H' ⟨F', env1, O', s', PostT.after h st fun _ z => z⟩
theorem t_not (h : PT X a (rdT X.K J σ0 ta)) : PT X (.UnaryOp .Not a pos) (rdT X.K J σ0 (notT ta)) := (pt_not h).conseq fun σ H Q ⟨F, env, O, s, p⟩ => by
  refine ⟨F, env, O, s, ?_⟩
  unfold notT at p
  cases q : ta env with
  | none => rw [q] at p; exact p
  | some r =>
    obtain ⟨b, env1⟩ := r
    rw [q] at p
    exact fun F' H' O' st s' => p F' H' O' st s'
theorem t_and1 (h : PT X a (rdT X.K J σ0 ta)) : PW X (.BoolOp .And [a] pos) (rdT X.K J σ0 ta) := pw_and1 h
theorem t_or1 (h : PT X a (rdT X.K J σ0 ta)) : PW X (.BoolOp .Or [a] pos) (rdT X.K J σ0 ta) := pw_or1 h
theorem _root_.L2.PW.conseq {e : Expr} {t t' : TT} (h : PW X e t) (c : ∀ σ H Q, t' σ H Q → t σ H Q) : PW X e t' := ⟨fun w pins s σ H Q I hw => h.run w pins s σ H Q I (c σ H Q hw)⟩
theorem t_and (h : PT X a (rdT X.K J σ0 ta)) (h2 : PW X (.BoolOp .And (b :: rest) pos) (rdT X.K J σ0 tb)) : PW X (.BoolOp .And (a :: b :: rest) pos) (rdT X.K J σ0 (andT ta tb)) :=
  (pw_and h h2).conseq fun σ H Q h => rdT_bind (k := fun b env => if b = true then tb env else some (false, env)) h fun c H1 h1 => by
    cases c with
    | true => exact h1
    | false =>
      obtain ⟨F, env, O, s, p⟩ := h1
      exact p F H1 O (.refl _ _ _ _ fun _ z => z) s
theorem t_or (h : PT X a (rdT X.K J σ0 ta)) (h2 : PW X (.BoolOp .Or (b :: rest) pos) (rdT X.K J σ0 tb)) : PW X (.BoolOp .Or (a :: b :: rest) pos) (rdT X.K J σ0 (orT ta tb)) :=
  (pw_or h h2).conseq fun σ H Q h => rdT_bind (k := fun b env => if b = true then some (true, env) else tb env) h fun c H1 h1 => by
    cases c with
    | false => exact h1
    | true =>
      obtain ⟨F, env, O, s, p⟩ := h1
      exact p F H1 O (.refl _ _ _ _ fun _ z => z) s
def ifE (t : RT) (f g : RE) : RE := fun env => (t env).bind fun p => if p.1 = true then f p.2 else g p.2
theorem rdT_bindE {σ : St} {H : Hp} {k : Bool → RE} {Q : VK} {Q2 : Bool → Hp → Prop} (h : rdE X.K J σ0 (fun env => (ta env).bind fun p => k p.1 p.2) σ H Q) (hk : ∀ b H1, rdE X.K J σ0 (k b) σ H1 Q → Q2 b H1) : rdT X.K J σ0 ta σ H Q2 := by
  obtain ⟨F, env, O, s, h⟩ := h
  refine ⟨F, env, O, s, ?_⟩
  cases q : ta env with
  | none => dsimp only at h; rw [q] at h; exact h
  | some p =>
    obtain ⟨b, env1⟩ := p
    dsimp only at h
    rw [q] at h
    intro F' H' O' st s'
    exact hk b H' ⟨F', env1, O', s', PostE.after h st fun _ z => z⟩
theorem e_if (hc : PT X c (rdT X.K J σ0 tc)) (ha : PE X a (rdE X.K J σ0 f)) (hb : PE X b (rdE X.K J σ0 g)) : PE X (.IfExp c a b pos) (rdE X.K J σ0 (ifE tc f g)) :=
  (pe_ifExp hc ha hb).conseq fun σ H Q h => rdT_bindE (k := fun b env => if b = true then f env else g env) h fun c H1 h1 => by
    cases c with
    | true => exact h1
    | false => exact h1
/-- a test as a value -/
def valE (t : RT) : RE := fun env => (t env).map fun p => (fz (.bool p.1), p.2)
/-! bools as values: and, or, not -/
def andE (f g : RE) : RE := fun env => (f env).bind fun p => match p.1.d with
  | .bool true => g p.2
  | .bool false => some (fz (.bool false), p.2)
  | _ => none
def orE (f g : RE) : RE := fun env => (f env).bind fun p => match p.1.d with
  | .bool true => some (fz (.bool true), p.2)
  | .bool false => g p.2
  | _ => none
def notE (f : RE) : RE := fun env => (f env).bind fun p => match p.1.d with
  | .bool b => some (fz (.bool (!b)), p.2)
  | _ => none
theorem ow_bl {K : PySem.W.Frag} {F : AS} {H : Hp} {n : Nat} {x : V} {b : Bool} {R : AS} (w : Ow K F H n x (.bool b) R) : x = .bl b := by
  cases w with
  | fz w _ _ => cases w; rfl
theorem e_and1 {op} (h : PE X a (rdE X.K J σ0 f)) : PE X (.BoolOp op [a] pos) (rdE X.K J σ0 f) := pe_one h
theorem e_and (ha : PE X a (rdE X.K J σ0 f)) (hb : PE X (.BoolOp .And (b :: rest) pos) (rdE X.K J σ0 g)) : PE X (.BoolOp .And (a :: b :: rest) pos) (rdE X.K J σ0 (andE f g)) :=
  (pe_and ha hb).conseq fun σ H Q ⟨F, env, O, s, h⟩ => by
    refine ⟨F, env, O, s, ?_⟩
    unfold andE at h
    cases q : f env with
    | none => rw [q] at h; exact h
    | some p =>
      obtain ⟨⟨d, n⟩, env1⟩ := p
      rw [q] at h
      dsimp only [Option.bind] at h
      intro x F' H' O' R st s' w dj
      split at h
      · have := ow_bl w; exact ⟨true, this, ⟨F', env1, O', s', PostE.after h st fun _ z => .inl z⟩⟩
      · have := ow_bl w; exact ⟨false, this, h _ F' H' O' (fun _ => False) (st.less fun a z => z.elim .inl False.elim) s' (.of_fz (.bl false)) fun _ _ z => z⟩
      · exact h.elim
theorem e_or (ha : PE X a (rdE X.K J σ0 f)) (hb : PE X (.BoolOp .Or (b :: rest) pos) (rdE X.K J σ0 g)) : PE X (.BoolOp .Or (a :: b :: rest) pos) (rdE X.K J σ0 (orE f g)) :=
  (pe_or ha hb).conseq fun σ H Q ⟨F, env, O, s, h⟩ => by
    refine ⟨F, env, O, s, ?_⟩
    unfold orE at h
    cases q : f env with
    | none => rw [q] at h; exact h
    | some p =>
      obtain ⟨⟨d, n⟩, env1⟩ := p
      rw [q] at h
      dsimp only [Option.bind] at h
      intro x F' H' O' R st s' w dj
      split at h
      · have := ow_bl w; exact ⟨true, this, h _ F' H' O' (fun _ => False) (st.less fun a z => z.elim .inl False.elim) s' (.of_fz (.bl true)) fun _ _ z => z⟩
      · have := ow_bl w; exact ⟨false, this, ⟨F', env1, O', s', PostE.after h st fun _ z => .inl z⟩⟩
      · exact h.elim
theorem e_not (ha : PE X a (rdE X.K J σ0 f)) : PE X (.UnaryOp .Not a pos) (rdE X.K J σ0 (notE f)) :=
  (pe_not ha).conseq fun σ H Q ⟨F, env, O, s, h⟩ => by
    refine ⟨F, env, O, s, ?_⟩
    unfold notE at h
    cases q : f env with
    | none => rw [q] at h; exact h
    | some p =>
      obtain ⟨⟨d, n⟩, env1⟩ := p
      rw [q] at h
      dsimp only [Option.bind] at h
      intro x F' H' O' R st s' w dj
      split at h
      · have := ow_bl w; exact ⟨_, this, h _ F' H' O' (fun _ => False) (st.less fun a z => z.elim .inl False.elim) s' (.of_fz (.bl _)) fun _ _ z => z⟩
      · exact h.elim
end
end Dn
end
section
set_option Elab.async false
set_option linter.all false
set_option maxRecDepth 100000
set_option maxHeartbeats 4000000
namespace Dn
open PySem L2
section
variable {K : PySem.W.Frag} {J : List Nat} {σ0 : St} {F F' F1 F2 : AS} {H H' H1 H2 : Hp} {env env' env1 : Ev} {σ σ' : St} {O O' O1 O2 : Nat → AS} {R R1 R2 L L1 L2 : AS}
theorem Tot.none (h : Tot (fun (_ : Nat) (_ : Addr) => False) = fun _ => False) : True := trivial
/-! ### targets -/
abbrev TgD := D → Ev → Option Ev
def nmT (i : Nat) : TgD := fun d env => some (env.set i (some (fz d)))
def tgsD : List TgD → List D → Ev → Option Ev
  | [], [], env => some env
  | t :: ts, d :: ds, env => (t d env).bind fun e => tgsD ts ds e
  | _, _, _ => none
def tupT (ts : List TgD) : TgD := fun d env => match d with
  | .tuple ds => tgsD ts ds env
  | .list ds => tgsD ts ds env
  | _ => none
/-- outside T nothing is stored -/
def SameOut (T : List Nat) (σ σ' : St) : Prop := σ'.length = σ.length ∧ ∀ j, j ∉ T → σ'[j]? = σ[j]?
def PostG (K : PySem.W.Frag) (J : List Nat) (σ0 : St) (T : List Nat) (σ : St) (F : AS) (H : Hp) (O : Nat → AS) (Q : St → Hp → Prop) : Option Ev → Prop
  | none => False
  | some env' => ∀ σ' O', SameOut T σ σ' → (∀ a, Tot O' a → Tot O a) → Sta K J σ0 F H env' σ' O' → Q σ' H
def rdG (K : PySem.W.Frag) (J : List Nat) (σ0 : St) (T : List Nat) (t : TgD) : TG := fun v σ H Q => ∃ F env O d, Sta K J σ0 F H env σ O ∧ Fz K F H v d ∧ PostG K J σ0 T σ F H O Q (t d env)
def rdGs (K : PySem.W.Frag) (J : List Nat) (σ0 : St) (T : List Nat) (ts : List TgD) : TGs := fun vs σ H Q => ∃ F env O ds, Sta K J σ0 F H env σ O ∧ FzL K F H vs ds ∧ PostG K J σ0 T σ F H O Q (tgsD ts ds env)
theorem SameOut.trans {T T2 : List Nat} {σ σ1 σ2 : St} (a : SameOut T σ σ1) (b : SameOut T2 σ1 σ2) : SameOut (T ++ T2) σ σ2 := ⟨b.1.trans a.1, fun j h => by
  rw [List.mem_append, not_or] at h
  exact (b.2 j h.2).trans (a.2 j h.1)⟩
theorem _root_.L2.PG.conseq {X : Cx} {e : Expr} {t t' : TG} (h : PG X e t) (c : ∀ v σ H Q, t' v σ H Q → t v σ H Q) : PG X e t' := ⟨fun pins s σ H v u Q I r hw => h.run pins s σ H v u Q I r (c v σ H Q hw)⟩
theorem _root_.L2.PGs.conseq {X : Cx} {e : List Expr} {t t' : TGs} (h : PGs X e t) (c : ∀ v σ H Q, t' v σ H Q → t v σ H Q) : PGs X e t' := ⟨fun pins s σ H v u Q I r hw => h.run pins s σ H v u Q I r (c v σ H Q hw)⟩
theorem _root_.L2.PG.orr {X : Cx} {e : Expr} {t u : TG} (h : PG X e t) (h' : PG X e u) : PG X e (fun v σ H Q => t v σ H Q ∨ u v σ H Q) := ⟨fun pins s σ H v u Q I r hw => hw.elim (fun z => h.run pins s σ H v _ Q I r z) fun z => h'.run pins s σ H v _ Q I r z⟩
end
section
variable {X : Cx} {J : List Nat} {σ0 : St} {pos : Pos} {e a b c : Expr} {f g : RE} {tc : RT} {t : TgD} {ts : List TgD} {es : List Expr} {T T2 : List Nat}
theorem g_nm {i : Nat} {x : Str} (hN : X.N.Nodup) (hi : X.N[i]? = some x) (hx : Loc X.env.scope x) (hJ : i ∉ J) (hf : X.fn x = true ∨ X.env.scope.names.lookup x = some .local := by first | exact .inl rfl | exact .inr rfl) : PG X (.Name x pos) (rdG X.K J σ0 [i] (nmT i)) :=
  (pg_name hN hi hx hf).conseq fun v σ H Q ⟨F, env, O, d, s, w, p⟩ =>
    p (σ.set i (some v)) _ ⟨List.length_set, fun j h => List.getElem?_set_ne (fun z => h (by rw [z]; exact List.mem_singleton.mpr rfl))⟩ (fun a z => (Tot.store a z).elim id fun z => z.elim) (s.store (v := fz d) hJ (.of_fz w) fun _ _ z => z)
theorem g_nil : PGs X [] (rdGs X.K J σ0 [] []) := pgs_nil.conseq fun vs σ H Q ⟨F, env, O, ds, s, w, p⟩ => by
  cases w with
  | nil => exact ⟨rfl, p σ O ⟨rfl, fun _ _ => rfl⟩ (fun _ z => z) s⟩
  | cons _ _ => exact p.elim
theorem g_cons (h1 : PG X e (rdG X.K J σ0 T t)) (h2 : PGs X es (rdGs X.K J σ0 T2 ts)) (hs : (assignEach (e :: es) X.env).map (·.2) = assign e X.env :: (assignEach es X.env).map (·.2) := by rfl) : PGs X (e :: es) (rdGs X.K J σ0 (T ++ T2) (t :: ts)) :=
  (pgs_cons h1 h2 hs).conseq fun vs σ H Q ⟨F, env, O, ds, s, w, p⟩ => by
    cases w with
    | nil => exact p.elim
    | cons w1 wt =>
      rename_i d xs ds x
      refine ⟨_, _, rfl, F, env, O, _, s, w1, ?_⟩
      unfold tgsD at p
      cases q : t d env with
      | none => rw [q] at p; exact p
      | some env1 =>
        rw [q] at p
        intro σ1 O1 so1 l1 s1
        refine ⟨F, env1, O1, ds, s1, wt, ?_⟩
        dsimp only [Option.bind] at p
        cases q2 : tgsD ts ds env1 with
        | none => rw [q2] at p; exact p
        | some env2 =>
          rw [q2] at p
          exact fun σ' O' so l s' => p σ' O' (so1.trans so) (fun a z => l1 a (l a z)) s'
theorem tgs_len : ∀ {ts : List TgD} {ds : List D} {env env' : Ev}, tgsD ts ds env = some env' → ds.length = ts.length
  | [], [], _, _, _ => rfl
  | [], _ :: _, _, _, e => nomatch e
  | _ :: _, [], _, _, e => nomatch e
  | t :: ts, d :: ds, env, env', e => by
    unfold tgsD at e
    cases q : t d env with
    | none => rw [q] at e; cases e
    | some env1 =>
      rw [q] at e
      rw [List.length_cons, List.length_cons, tgs_len (ts := ts) (ds := ds) e]
theorem g_tup {k : Nat} {n : Nat} (hc : X.calm = true) (h : PGs X es (rdGs X.K J σ0 T ts)) (hn : (assignEach es X.env).length = n := by rfl) (hn2 : ts.length = n := by rfl) (hst : (assignEach es X.env).findIdx? (·.1) = none := by rfl) : PG X (.Tuple es k pos) (rdG X.K J σ0 T (tupT ts)) :=
  ((pg_tup hc h hn hst).orr (pg_lst hc h hn hst)).conseq fun v σ H Q ⟨F, env, O, d, s, w, p⟩ => by
    unfold tupT at p
    split at p
    · rename_i ds
      obtain ⟨a, xs, rfl, e1, t1, _⟩ := (Vw.fz w).tup
      cases q : tgsD ts ds env with
      | none => rw [q] at p; exact p.elim
      | some env' =>
        refine .inl ⟨a, xs, rfl, e1, by rw [t1.length, tgs_len q, hn2], F, env, O, ds, s, t1, p⟩
    · rename_i ds
      obtain ⟨a, xs, rfl, e1, t1⟩ := (Vw.fz w).list
      cases q : tgsD ts ds env with
      | none => rw [q] at p; exact p.elim
      | some env' =>
        refine .inr ⟨a, xs, rfl, .inl (.inl e1), by rw [t1.length, tgs_len q, hn2], F, env, O, ds, s, t1, p⟩
    · exact p.elim
/-! ### statements -/
def asgS (i : Nat) (f : RE) : RS := fun env => (f env).map fun p => (.nx, p.2.set i (some p.1))
theorem asg_run {i : Nat} {σ : St} {H : Hp} {Dn : Ends} (hJ : i ∉ J) (h : rdS X.K J σ0 (asgS i f) Dn σ H) : tAsg (rdE X.K J σ0 f) (gName i) Dn σ H := by
  obtain ⟨F, env, O, s, p⟩ := h
  refine ⟨F, env, O, s, ?_⟩
  unfold asgS at p
  cases q : f env with
  | none => rw [q] at p; exact p
  | some r =>
    obtain ⟨v, env1⟩ := r
    rw [q] at p
    exact fun x F' H' O' R st s' w d => p _ F' H' _ (st.less fun a z => Tot.store a z) (s'.store hJ w d)
theorem s_asg {i : Nat} {x : Str} {pos' : Pos} (hN : X.N.Nodup) (hi : X.N[i]? = some x) (hx : Loc X.env.scope x) (hJ : i ∉ J) (he : PE X e (rdE X.K J σ0 f)) (hs : swapsWith e (some (.Name x pos')) pos.line X.env = pure false := by rfl)
    (hf : X.fn x = true ∨ X.env.scope.names.lookup x = some .local := by first | exact .inl rfl | exact .inr rfl) : PS X (.Assign [.Name x pos'] e pos) (rdS X.K J σ0 (asgS i f)) :=
  (ps_set hN hi hx he hs hf).conseq fun Dn σ H h => asg_run hJ h
def asgT (f : RE) (t : TgD) : RS := fun env => (f env).bind fun p => if p.1.n = 0 then (t p.1.d p.2).map fun e => (.nx, e) else none
theorem s_asgT {tg : Expr} (he : PE X e (rdE X.K J σ0 f)) (hg : PG X tg (rdG X.K J σ0 T t)) (hs : swapsWithSole [tg] e pos.line X.env = pure false := by rfl) (hw : swappedStores [tg] e X.env = pure none := by rfl) (h3 : (assignEach [tg] X.env).map (·.2) = [assign tg X.env] := by rfl) : PS X (.Assign [tg] e pos) (rdS X.K J σ0 (asgT f t)) :=
  (ps_asg he hg hs hw h3).conseq fun Dn σ H ⟨F, env, O, s, p⟩ => by
    refine ⟨F, env, O, s, ?_⟩
    unfold asgT at p
    cases q : f env with
    | none => rw [q] at p; exact p
    | some r =>
      obtain ⟨⟨d, n⟩, env1⟩ := r
      rw [q] at p
      dsimp only [Option.bind] at p
      split at p
      · rename_i hn
        subst hn
        intro x F' H' O' R st s' w dj
        cases w with
        | fz w _ _ =>
          refine ⟨F', env1, O', d, s', w, ?_⟩
          cases q2 : t d env1 with
          | none => rw [q2] at p; exact p
          | some env2 =>
            rw [q2] at p
            exact fun σ' O2 _ l s2 => p σ' F' H' O2 (st.less fun a z => .inl (l a z)) s2
      · exact p.elim
def retS (f : RE) : RS := fun env => (f env).map fun p => (.rt p.1, p.2)
theorem s_ret (he : PE X e (rdE X.K J σ0 f)) : PS X (.Return (some e) pos) (rdS X.K J σ0 (retS f)) := (ps_ret he).conseq fun Dn σ H ⟨F, env, O, s, p⟩ => by
  refine ⟨F, env, O, s, ?_⟩
  unfold retS at p
  cases q : f env with
  | none => rw [q] at p; exact p
  | some r =>
    rw [q] at p
    exact fun x F' H' O' R st s' w d => p x σ F' H' O' R st s' w d
def retN : RS := fun env => some (.rt (fz .none), env)
theorem s_retN : PS X (.Return none pos) (rdS X.K J σ0 retN) := ps_retN.conseq fun Dn σ H ⟨F, env, O, s, p⟩ => p .non σ F H O (fun _ => False) (.refl _ _ _ _ fun a z => z.elim id False.elim) s (.of_fz .non) fun _ _ z => z
def expS (f : RE) : RS := fun env => (f env).map fun p => (.nx, p.2)
theorem s_exp (he : PE X e (rdE X.K J σ0 f)) (hs : swapsWith e none pos.line X.env = pure false := by rfl) : PS X (.Expr e pos) (rdS X.K J σ0 (expS f)) := (ps_expr he hs).conseq fun Dn σ H ⟨F, env, O, s, p⟩ => by
  refine ⟨F, env, O, s, ?_⟩
  unfold expS at p
  cases q : f env with
  | none => rw [q] at p; exact p
  | some r =>
    rw [q] at p
    exact fun x F' H' O' R st s' w d => p σ F' H' O' (st.less fun a z => .inl z) s'
def nilS : RS := fun env => some (.nx, env)
theorem here_nx {K : PySem.W.Frag} {F : AS} {H : Hp} {env : Ev} {σ : St} {O : Nat → AS} {Dn : Ends} (s : Sta K J σ0 F H env σ O) (p : PostS K J σ0 Dn F H (Tot O) (some (.nx, env))) : Dn.nx σ H := p σ F H O (.refl _ _ _ _ fun _ z => z) s
theorem s_nil : PSs X [] (rdS X.K J σ0 nilS) := pss_nil.conseq fun Dn σ H ⟨F, env, O, s, p⟩ => here_nx s p
theorem s_pass : PS X (.Pass pos) (rdS X.K J σ0 nilS) := ps_pass.conseq fun Dn σ H ⟨F, env, O, s, p⟩ => here_nx s p
def brkS : RS := fun env => some (.bk, env)
theorem s_brk : PS X (.Break pos) (rdS X.K J σ0 brkS) := ps_break.conseq fun Dn σ H ⟨F, env, O, s, p⟩ => p σ F H O (.refl _ _ _ _ fun _ z => z) s
def conS : RS := fun env => some (.ct, env)
theorem s_con : PS X (.Continue pos) (rdS X.K J σ0 conS) := ps_continue.conseq fun Dn σ H ⟨F, env, O, s, p⟩ => p σ F H O (.refl _ _ _ _ fun _ z => z) s
def thenS (r : Option (Fl × Ev)) (k : RS) : Option (Fl × Ev) := match r with
  | some (.nx, e) => k e
  | r => r
def seqS (s t : RS) : RS := fun env => thenS (s env) t
variable {s1 s2 : RS} {st : Stmt} {sts : List Stmt}
theorem then_run {F : AS} {H : Hp} {L : AS} {Dn : Ends} {k : RS} : ∀ {r : Option (Fl × Ev)}, PostS X.K J σ0 Dn F H L (thenS r k) → PostS X.K J σ0 { Dn with nx := rdS X.K J σ0 k Dn } F H L r
  | none, p => p
  | some (.nx, env), p => fun σ' F' H' O' st' s' => ⟨F', env, O', s', PostS.after p st' fun _ z => z⟩
  | some (.bk, _), p => p
  | some (.ct, _), p => p
  | some (.rt _, _), p => p
theorem s_cons (h1 : PS X st (rdS X.K J σ0 s1)) (h2 : PSs X sts (rdS X.K J σ0 s2)) : PSs X (st :: sts) (rdS X.K J σ0 (seqS s1 s2)) := (pss_cons h1 h2).conseq fun Dn σ H ⟨F, env, O, s, p⟩ => ⟨F, env, O, s, then_run p⟩
theorem s_one (h1 : PS X st (rdS X.K J σ0 s1)) : PSs X [st] (rdS X.K J σ0 s1) := pss_one h1
def ifS (t : RT) (s u : RS) : RS := fun env => (t env).bind fun p => if p.1 = true then s p.2 else u p.2
theorem s_if {u v : List Stmt} (hc : PT X c (rdT X.K J σ0 tc)) (ha : PSs X u (rdS X.K J σ0 s1)) (hb : PSs X v (rdS X.K J σ0 s2)) : PS X (.If c u v pos) (rdS X.K J σ0 (ifS tc s1 s2)) := (ps_if hc ha hb).conseq fun Dn σ H ⟨F, env, O, s, p⟩ => by
  refine ⟨F, env, O, s, ?_⟩
  unfold ifS at p
  cases q : tc env with
  | none => rw [q] at p; exact p
  | some r =>
    obtain ⟨b, env1⟩ := r
    rw [q] at p
    dsimp only [Option.bind] at p
    intro F' H' O' st' s'
    cases b with
    | true => exact ⟨F', env1, O', s', PostS.after p st' fun _ z => z⟩
    | false => exact ⟨F', env1, O', s', PostS.after p st' fun _ z => z⟩
/-! ### while -/
def whileN (c : RT) (b : RS) : Nat → RS
  | 0, _ => none
  | n + 1, env => (c env).bind fun p => if p.1 = true then (match b p.2 with
    | some (.nx, e) => whileN c b n e
    | some (.ct, e) => whileN c b n e
    | some (.bk, e) => some (.nx, e)
    | r => r) else some (.nx, p.2)
theorem whileN_mono {c : RT} {b : RS} : ∀ {n m : Nat} {env : Ev} {r : Fl × Ev}, whileN c b n env = some r → n ≤ m → whileN c b m env = some r
  | 0, _, _, _, e, _ => nomatch e
  | n + 1, 0, _, _, _, h => absurd h (by omega)
  | n + 1, m + 1, env, r, e, h => by
    unfold whileN at e ⊢
    cases q : c env with
    | none => rw [q] at e; cases e
    | some p =>
      rw [q] at e
      dsimp only [Option.bind] at e ⊢
      split at e
      · rename_i hp
        rw [if_pos hp]
        split at e
        · exact whileN_mono e (by omega)
        · exact whileN_mono e (by omega)
        · exact e
        · exact e
      · rename_i hp
        rw [if_neg hp]
        exact e
open Classical in
noncomputable def whileS (c : RT) (b : RS) : RS := fun env => if h : ∃ n r, whileN c b n env = some r then some h.choose_spec.choose else none
theorem whileS_eq {c : RT} {b : RS} {n : Nat} {env : Ev} {r : Fl × Ev} (e : whileN c b n env = some r) : whileS c b env = some r := by
  unfold whileS
  have h : ∃ n r, whileN c b n env = some r := ⟨n, r, e⟩
  rw [dif_pos h]
  have h2 := h.choose_spec.choose_spec
  have e1 := whileN_mono e (Nat.le_max_left n h.choose)
  have e2 := whileN_mono h2 (Nat.le_max_right n h.choose)
  rw [e1] at e2
  exact e2.symm
theorem s_while {u : List Stmt} (hp : PassesOwn (model X.prog X.w) X.A X.env X.xe) (hc : PT X c (rdT X.K J σ0 tc)) (hb : PSs X u (rdS X.K J σ0 s1)) : PS X (.While c u [] pos) (rdS X.K J σ0 (whileS tc s1)) := (ps_while hp hc hb).conseq fun Dn σ H ⟨F, env, O, s, p⟩ => by
  have hn : ∃ n, PostS X.K J σ0 Dn F H (Tot O) (whileN tc s1 n env) := by
    unfold whileS at p
    split at p
    · rename_i h
      refine ⟨h.choose, ?_⟩
      rw [h.choose_spec.choose_spec]
      exact p
    · exact p.elim
  obtain ⟨n, hn⟩ := hn
  refine ⟨fun m σ H => ∃ F env O, Sta X.K J σ0 F H env σ O ∧ PostS X.K J σ0 Dn F H (Tot O) (whileN tc s1 m env), ⟨n, F, env, O, s, hn⟩, ?_⟩
  rintro m σ H ⟨F, env, O, s, p⟩
  refine ⟨F, env, O, s, ?_⟩
  cases m with
  | zero => exact p.elim
  | succ m =>
    unfold whileN at p
    cases q : tc env with
    | none => rw [q] at p; exact p
    | some r =>
      obtain ⟨b, env1⟩ := r
      rw [q] at p
      dsimp only [Option.bind] at p
      intro F' H' O' st' s'
      cases b with
      | false =>
        rw [if_neg Bool.false_ne_true] at p ⊢
        exact p σ F' H' O' st' s'
      | true =>
        rw [if_pos rfl] at p ⊢
        refine ⟨fun σ' H' => ∃ F env O, Sta X.K J σ0 F H' env σ' O ∧ PostS X.K J σ0 Dn F H' (Tot O) (whileN tc s1 m env), fun σ' H' z => ⟨m, Nat.lt_succ_self m, z⟩, F', env1, O', s', ?_⟩
        have p' := PostS.after p st' fun _ z => z
        clear p q
        generalize s1 env1 = r at p'
        match r, p' with
        | none, p' => exact p'
        | some (.nx, e), p' => exact fun σ2 F2 H2 O2 st2 s2 => ⟨F2, e, O2, s2, PostS.after p' st2 fun _ z => z⟩
        | some (.ct, e), p' => exact fun σ2 F2 H2 O2 st2 s2 => ⟨F2, e, O2, s2, PostS.after p' st2 fun _ z => z⟩
        | some (.bk, e), p' => exact fun σ2 F2 H2 O2 st2 s2 => p' σ2 F2 H2 O2 st2 s2
        | some (.rt v, e), p' => exact p'
/-! ### what is walked -/
/-- J hands out the frozen data ds, one after another -/
def Serves (K : PySem.W.Frag) (J : It) (ds : List D) (F : AS) (H : Hp) : Prop :=
  ∀ (F' : AS) (H' : Hp), (∀ a, F a → F' a) → (∀ a o, F a → H a = some o → H' a = some o) → (∀ a, F' a → ∃ o, H' a = some o) → ∀ i : Nat,
    (∀ d, ds[i]? = some d → J.go i H' ∧ ∀ x H'', J.yld i H' x H'' → ∃ F'' : AS, (∀ a o, H' a = some o → H'' a = some o) ∧ (∀ a, F' a → F'' a) ∧ (∀ a, F'' a → F' a ∨ (H' a = none ∧ ∃ o, H'' a = some o)) ∧ Fz K F'' H'' x d) ∧ (ds.length ≤ i → J.stop i H')
abbrev RI := Ev → Option (List D × Ev)
def PostI (K : PySem.W.Frag) (J : List Nat) (σ0 : St) (σ : St) (Q : It → Hp → Prop) (F : AS) (H : Hp) (L : AS) : Option (List D × Ev) → Prop
  | none => False
  | some (ds, env') => ∀ I F' H' O', Stp F H L F' H' (Tot O') → Sta K J σ0 F' H' env' σ O' → Serves K I ds F' H' → Q I H'
def rdI (K : PySem.W.Frag) (J : List Nat) (σ0 : St) (f : RI) : TI := fun σ H Q => ∃ F env O, Sta K J σ0 F H env σ O ∧ PostI K J σ0 σ Q F H (Tot O) (f env)
theorem _root_.L2.PI.conseq {X : Cx} {tg e : Expr} {t t' : TI} (h : PI X tg e t) (c : ∀ σ H Q, t' σ H Q → t σ H Q) : PI X tg e t' := ⟨fun pins s σ H R I hw => h.run pins s σ H R I (c σ H R hw)⟩
theorem _root_.L2.PI.orr {X : Cx} {tg e : Expr} {t u : TI} (h : PI X tg e t) (h' : PI X tg e u) : PI X tg e (fun σ H Q => t σ H Q ∨ u σ H Q) := ⟨fun pins s σ H R I hw => hw.elim (fun z => h.run pins s σ H R I z) fun z => h'.run pins s σ H R I z⟩
/-- the items of a list or a tuple -/
def itemsD : D → Option (List D)
  | .list ds => some ds
  | .tuple ds => some ds
  | _ => none
def seqI (f : RE) : RI := fun env => (f env).bind fun p => if p.1.n = 0 then (itemsD p.1.d).map fun ds => (ds, p.2) else none
theorem serves_lst {K : PySem.W.Frag} {F : AS} {H : Hp} {a : Addr} {xs : List V} {ds : List D} (h : At F H a (.lst xs)) (t : FzL K F H xs ds) : Serves K (Itl K a) ds F H := by
  intro F' H' hF hk al i
  have h' := h.mono hF hk
  have t' := t.mono hF hk
  refine ⟨fun d e => ?_, fun hi => ⟨xs, .inl (.inl h'.2), by rw [t.length]; exact hi⟩⟩
  obtain ⟨x, ex, w⟩ := t'.get e
  refine ⟨⟨xs, x, .inl (.inl h'.2), ex⟩, fun y H'' hy => ?_⟩
  obtain ⟨rfl, hy⟩ := hy
  have := hy xs (.inl (.inl h'.2))
  rw [ex] at this; cases this
  exact ⟨F', fun _ _ z => z, fun _ z => z, fun _ z => .inl z, w⟩
theorem serves_tup {K : PySem.W.Frag} {F : AS} {H : Hp} {a : Addr} {ds : List D} (h : Fz K F H (.ref a) (.tuple ds)) : Serves K (Itt K a) ds F H := by
  intro F' H' hF hk al i
  obtain ⟨a', xs, e, h', t', _⟩ := (Vw.fz (h.mono hF hk)).tup
  cases e
  refine ⟨fun d e => ?_, fun hi => ⟨xs, h', by rw [t'.length]; exact hi⟩⟩
  obtain ⟨x, ex, w⟩ := t'.get e
  refine ⟨⟨xs, x, h', ex⟩, fun y H'' hy => ?_⟩
  obtain ⟨rfl, hy⟩ := hy
  have := hy xs h'
  rw [ex] at this; cases this
  exact ⟨F', fun _ _ z => z, fun _ z => z, fun _ z => .inl z, w⟩
theorem i_seq {tg iter : Expr} (h : PE X iter (rdE X.K J σ0 f)) : PI X tg iter (rdI X.K J σ0 (seqI f)) :=
  ((pi_list h).orr (pi_tup h)).conseq fun σ H Q ⟨F, env, O, s, p⟩ => by
    unfold seqI at p
    cases q : f env with
    | none => rw [q] at p; exact p.elim
    | some r =>
      obtain ⟨⟨d, n⟩, env1⟩ := r
      rw [q] at p
      dsimp only [Option.bind] at p
      split at p
      · rename_i hn
        subst hn
        cases d with
        | list ds =>
          refine .inl ⟨F, env, O, s, ?_⟩
          rw [q]
          intro x F' H' O' R st s' w dj
          cases w with
          | fz w _ _ =>
            cases w with
            | lst h t => exact ⟨_, rfl, ⟨_, .inl (.inl h.2)⟩, p _ F' H' O' (st.less fun a z => .inl z) s' (serves_lst h t)⟩
        | tuple ds =>
          refine .inr ⟨F, env, O, s, ?_⟩
          rw [q]
          intro x F' H' O' R st s' w dj
          cases w with
          | fz w _ _ =>
            obtain ⟨a, xs, rfl, e1, t1, _⟩ := (Vw.fz w).tup
            exact ⟨_, rfl, ⟨_, e1⟩, p _ F' H' O' (st.less fun a z => .inl z) s' (serves_tup w)⟩
        | _ => exact p.elim
      · exact p.elim
/-- range -/
def rngL (lo : Int) (n : Nat) : List D := (List.range n).map fun (i : Nat) => .int (lo + (i : Int))
theorem serves_rng {K : PySem.W.Frag} {F : AS} {H : Hp} (lo : Int) (n : Nat) : Serves K (Itr lo n) (rngL lo n) F H := by
  intro F' H' hF hk al i
  refine ⟨fun d e => ?_, fun hi => (show n ≤ i by simpa [rngL] using hi)⟩
  unfold rngL at e
  rw [List.getElem?_map] at e
  have hi : i < n := by
    by_cases hi : i < n
    · exact hi
    · rw [List.getElem?_eq_none (by simpa using hi)] at e; cases e
  rw [List.getElem?_range hi] at e
  cases e
  refine ⟨hi, fun x H'' hy => ?_⟩
  obtain ⟨rfl, rfl⟩ := hy
  exact ⟨F', fun _ _ z => z, fun _ z => z, fun _ z => .inl z, .int _⟩
/-- a walk whose arguments are data -/
def opI (o : List D → Option (List D)) (os : List Opd) : RI := fun env => (rN os env).bind fun p => (rsN p.1 p.2).bind fun ds => (o ds).map fun r => (r, p.2)
def SemI (X : Cx) (r : List V → Hp → (It → Hp → Prop) → Prop) (o : List D → Option (List D)) : Prop :=
  ∀ (F : AS) (H : Hp) (xs : List V) (ds res : List D) (Q : It → Hp → Prop), (∀ a, F a → ∃ u, H a = some u) → VwL X.K F H xs ds → o ds = some res → (∀ I, Serves X.K I res F H → Q I H) → r xs H Q
theorem opI_run {σ : St} {H : Hp} {r : List V → Hp → (It → Hp → Prop) → Prop} {o : List D → Option (List D)} {os : List Opd} {Q : It → Hp → Prop} (hr : SemI X r o) (h : rdI X.K J σ0 (opI o os) σ H Q) : tOs X.K J σ0 os σ H fun xs H1 => r xs H1 Q := by
  obtain ⟨F, env, O, s, h⟩ := h
  unfold opI at h
  cases q : rN os env with
  | none => rw [q] at h; exact h.elim
  | some p =>
    obtain ⟨ps, env1⟩ := p
    rw [q] at h
    dsimp only [Option.bind] at h
    cases q2 : rsN ps env1 with
    | none => rw [q2] at h; exact h.elim
    | some ds =>
      rw [q2] at h
      dsimp only at h
      cases q3 : o ds with
      | none => rw [q3] at h; exact h.elim
      | some res =>
        rw [q3] at h
        refine tOs_run s q fun xs F1 H1 O1 R1 st1 s1 w1 d1 => ?_
        exact hr F1 H1 xs ds res Q s1.al (rsN_vw s1 w1 q2) q3 fun I sv => h I F1 H1 O1 (st1.less fun a z => .inl z) s1 sv
def rng1 : List D → Option (List D)
  | [.int j] => if irB 4611686018427387904 4611686018427387903 j = true then some (rngL 0 j.toNat) else none
  | _ => none
def rng2 : List D → Option (List D)
  | [.int i, .int j] => if irB 4611686018427387904 4611686018427387903 i = true ∧ irB 4611686018427387904 4611686018427387903 j = true then some (rngL i (j - i).toNat) else none
  | _ => none
variable {oa ob oc : Opd} {p : Pos}
theorem i_rng1 {tg : Expr} (hg : Gl X "range") (hm : X.mg "range" = none) (ha : PE X a (tO X.K J σ0 oa)) (hs : starEach [a] X.env = [(false, eval a X.env)] := by rfl) : PI X tg (.Call (.Name "range" p) [a] [] pos) (rdI X.K J σ0 (opI rng1 [oa])) :=
  (pi_range1 hg hm (pa_cons ha pa_nil hs) hs).conseq fun σ H Q h => by
    refine opI_run (r := fun vs H1 R => ∃ j : Int, vs = [.int j] ∧ -(2 ^ 62) ≤ j ∧ j < 2 ^ 62 ∧ R (Itr 0 j.toNat) H1) ?_ h
    intro F H xs ds res Q al hv e h
    unfold rng1 at e
    split at e
    · split at e
      · rename_i hz
        cases e
        obtain ⟨x, rfl, h1⟩ := hv.one
        cases h1.int
        have hz := irB_iff.mp hz
        exact ⟨_, rfl, by omega, by omega, h _ (serves_rng _ _)⟩
      · cases e
    · cases e
theorem i_rng2 {tg : Expr} (hg : Gl X "range") (hm : X.mg "range" = none) (ha : PE X a (tO X.K J σ0 oa)) (hb : PE X b (tO X.K J σ0 ob)) (hs : starEach [a, b] X.env = [(false, eval a X.env), (false, eval b X.env)] := by rfl) (hs2 : starEach [b] X.env = [(false, eval b X.env)] := by rfl) : PI X tg (.Call (.Name "range" p) [a, b] [] pos) (rdI X.K J σ0 (opI rng2 [oa, ob])) :=
  (pi_range2 hg hm (pa_cons ha (pa_cons hb pa_nil hs2) (by rw [hs, hs2])) hs hs2).conseq fun σ H Q h => by
    refine opI_run (r := fun vs H1 R => ∃ i j : Int, vs = [.int i, .int j] ∧ (-(2 ^ 62) ≤ i ∧ i < 2 ^ 62 ∧ -(2 ^ 62) ≤ j ∧ j < 2 ^ 62) ∧ R (Itr i (j - i).toNat) H1) ?_ h
    intro F H xs ds res Q al hv e h
    unfold rng2 at e
    split at e
    · split at e
      · rename_i hz
        cases e
        obtain ⟨x, y, rfl, h1, h2⟩ := hv.two
        cases h1.int; cases h2.int
        have hz1 := irB_iff.mp hz.1
        have hz2 := irB_iff.mp hz.2
        exact ⟨_, _, rfl, ⟨by omega, by omega, by omega, by omega⟩, h _ (serves_rng _ _)⟩
      · cases e
    · cases e
/-! ### for -/
def loopS (t : TgD) (b : RS) : List D → RS
  | [], env => some (.nx, env)
  | d :: ds, env => (t d env).bind fun e => match b e with
    | some (.nx, e) => loopS t b ds e
    | some (.ct, e) => loopS t b ds e
    | some (.bk, e) => some (.nx, e)
    | r => r
def forS (i : RI) (t : TgD) (b : RS) : RS := fun env => (i env).bind fun p => loopS t b p.1 p.2
variable {ri : RI}
theorem s_for {tg iter : Expr} {u : List Stmt} (hp : PassesOwn (model X.prog X.w) X.A X.env X.xe) (hc : X.calm = true) (hi : PI X tg iter (rdI X.K J σ0 ri)) (hg : PG X tg (rdG X.K J σ0 T t)) (hb : PSs X u (rdS X.K J σ0 s1))
    (hs : ∀ x, foldedSetIterable iter X.env x = pure x := by intro _; rfl) : PS X (.For tg iter u [] pos) (rdS X.K J σ0 (forS ri t s1)) := (ps_for hp hc hi hg hb hs).conseq fun Dn σ H ⟨F, env, O, s, p⟩ => by
  refine ⟨F, env, O, s, ?_⟩
  unfold forS at p
  cases q : ri env with
  | none => rw [q] at p; exact p
  | some r =>
    obtain ⟨ds, env1⟩ := r
    rw [q] at p
    dsimp only [Option.bind] at p
    intro I F1 H1 O1 st1 sa1 sv
    have p1 := PostS.after p st1 fun _ z => z
    refine ⟨fun i m σ H => m = ds.length - i ∧ ∃ F env O, Sta X.K J σ0 F H env σ O ∧ Serves X.K I ds F H ∧ PostS X.K J σ0 Dn F H (Tot O) (loopS t s1 (ds.drop i) env), ⟨ds.length, by simp, F1, env1, O1, sa1, sv, p1⟩, ?_⟩
    clear p p1 q sa1 st1 sv
    rintro i m σ H ⟨rfl, F, env, O, s, sv, p⟩
    have here := sv F H (fun _ z => z) (fun _ _ _ e => e) s.al i
    by_cases hi : i < ds.length
    · have ed : ds[i]? = some ds[i] := List.getElem?_eq_getElem hi
      obtain ⟨go, yl⟩ := here.1 _ ed
      refine .inr ⟨go, fun σ' H' => ∃ F env O, Sta X.K J σ0 F H' env σ' O ∧ Serves X.K I ds F H' ∧ PostS X.K J σ0 Dn F H' (Tot O) (loopS t s1 (ds.drop (i + 1)) env), fun σ' H' z => ⟨ds.length - (i + 1), by omega, rfl, z⟩, fun x H2 hy => ?_⟩
      obtain ⟨F2, hH, hF, hg, w⟩ := yl x H2 hy
      have s2 := s.grown hH hF hg
      have st2 : Stp F H (Tot O) F2 H2 (Tot O) := ⟨hF, fun a f => (hg a f).elim .inl fun z => .inr (.inr z.1), fun a z => .inl z, fun a o e _ => hH a o e, fun a o e => ⟨o, hH a o e⟩⟩
      have p2 := PostS.after p st2 fun _ z => z
      have sv2 : Serves X.K I ds F2 H2 := fun F' H' a1 a2 a3 => sv F' H' (fun a f => a1 a (hF a f)) (fun a o f e => a2 a o (hF a f) (hH a o e)) a3
      refine ⟨F2, env, O, ds[i], s2, w, ?_⟩
      rw [List.drop_eq_getElem_cons hi] at p2
      unfold loopS at p2
      cases q2 : t ds[i] env with
      | none => rw [q2] at p2; exact p2
      | some env2 =>
        rw [q2] at p2
        dsimp only [Option.bind] at p2
        intro σ3 O3 _ l3 s3
        refine ⟨F2, env2, O3, s3, ?_⟩
        have p3 : PostS X.K J σ0 Dn F2 H2 (Tot O3) _ := PostS.after p2 (.refl F2 H2 _ _ l3) fun _ z => z
        clear p2 p
        have svk : ∀ {F' H' O'}, Stp F2 H2 (Tot O3) F' H' (Tot O') → Serves X.K I ds F' H' := fun {F' H' O'} st F3 H3 a1 a2 a3 => sv2 F3 H3 (fun a f => a1 a (st.mono a f)) (fun a o f e => a2 a o (st.mono a f) (st.keep a o e fun z => (s3.own z).2 f)) a3
        generalize s1 env2 = r at p3
        match r, p3 with
        | none, p3 => exact p3
        | some (.nx, e), p3 => exact fun σ4 F4 H4 O4 st4 s4 => ⟨F4, e, O4, s4, svk st4, PostS.after p3 st4 fun _ z => z⟩
        | some (.ct, e), p3 => exact fun σ4 F4 H4 O4 st4 s4 => ⟨F4, e, O4, s4, svk st4, PostS.after p3 st4 fun _ z => z⟩
        | some (.bk, e), p3 => exact fun σ4 F4 H4 O4 st4 s4 => p3 σ4 F4 H4 O4 st4 s4
        | some (.rt v, e), p3 => exact p3
    · have e0 : ds.drop i = [] := List.drop_of_length_le (by omega)
      rw [e0] at p
      exact .inl ⟨here.2 (by omega), here_nx s p⟩
end
end Dn
end
section
set_option Elab.async false
set_option linter.all false
set_option maxRecDepth 100000
set_option maxHeartbeats 4000000
namespace Dn
open PySem L2
/-! ### list comprehensions -/
def wipeE (env : Ev) : List Nat → Ev
  | [] => env
  | v :: vs => (wipeE env vs).set v none
def yesT : RT := fun env => some (true, env)
def lcL (t : TgD) (c : RT) (f : RE) (vs : List Nat) : List D → Ev → Option (List D × Ev)
  | [], env => some ([], env)
  | d :: ds, env => (t d env).bind fun e => (c e).bind fun p => if p.1 = true then (f p.2).bind fun q => if q.1.n = 0 then (lcL t c f vs ds (wipeE q.2 vs)).map fun r => (q.1.d :: r.1, r.2) else none else lcL t c f vs ds (wipeE p.2 vs)
def lcE (i : RI) (t : TgD) (c : RT) (f : RE) (vs : List Nat) : RE := fun env => (i env).bind fun p => if p.1.length ≤ sizeLine then (lcL t c f vs p.1 (wipeE p.2 vs)).map fun r => (⟨.list r.1, 1⟩, r.2) else none
section
variable {K : PySem.W.Frag} {J : List Nat} {σ0 : St} {F F' F1 F2 : AS} {H H' H1 H2 : Hp} {env env' env1 : Ev} {σ σ' : St} {O O' O1 O2 : Nat → AS} {R R1 R2 L L1 L2 : AS}
theorem wipeE_len : ∀ vs : List Nat, (wipeE env vs).length = env.length
  | [] => rfl
  | v :: vs => by unfold wipeE; rw [List.length_set, wipeE_len vs]
theorem wipeE_at : ∀ {vs : List Nat} {v : Nat} {u : Val}, (wipeE env vs)[v]? = some (some u) → v ∉ vs ∧ env[v]? = some (some u)
  | [], _, _, h => ⟨by simp, h⟩
  | w :: vs, v, u, h => by
    unfold wipeE at h
    by_cases e : w = v
    · subst e
      by_cases hl : w < (wipeE env vs).length
      · rw [List.getElem?_set_self hl] at h; cases h
      · rw [List.getElem?_eq_none (by simpa using hl)] at h; cases h
    · rw [List.getElem?_set_ne e] at h
      obtain ⟨h1, h2⟩ := wipeE_at h
      exact ⟨by simp only [List.mem_cons, not_or]; exact ⟨fun z => e z.symm, h1⟩, h2⟩
theorem wipeE_of : ∀ {vs : List Nat} {v : Nat}, v ∉ vs → (wipeE env vs)[v]? = env[v]?
  | [], _, _ => rfl
  | w :: vs, v, h => by
    rw [List.mem_cons, not_or] at h
    unfold wipeE
    rw [List.getElem?_set_ne (Ne.symm h.1)]
    exact wipeE_of h.2
theorem wipe_of : ∀ {vs : List Nat} {v : Nat}, v ∉ vs → (wipe σ vs)[v]? = σ[v]?
  | [], _, _ => rfl
  | w :: vs, v, h => by
    rw [List.mem_cons, not_or] at h
    unfold wipe
    rw [List.getElem?_set_ne (Ne.symm h.1)]
    exact wipe_of h.2
theorem wipe_in : ∀ {vs : List Nat} {v : Nat}, v ∈ vs → v < σ.length → (wipe σ vs)[v]? = some none
  | w :: vs, v, h, hl => by
    unfold wipe
    by_cases e : w = v
    · subst e
      exact List.getElem?_set_self (by rw [wipe_length]; exact hl)
    · rw [List.getElem?_set_ne e]
      rcases List.mem_cons.mp h with z | z
      · exact (e z.symm).elim
      · exact wipe_in z hl
theorem SameOut.wipe {T vs : List Nat} (h : SameOut T σ σ') (hT : ∀ j ∈ T, j ∈ vs) : wipe σ' vs = wipe σ vs := by
  apply List.ext_getElem?
  intro j
  by_cases hj : j ∈ vs
  · by_cases hl : j < σ.length
    · rw [wipe_in hj hl, wipe_in hj (by rw [h.1]; exact hl)]
    · rw [List.getElem?_eq_none (by rw [wipe_length, h.1]; omega), List.getElem?_eq_none (by rw [wipe_length]; omega)]
  · rw [wipe_of hj, wipe_of hj]
    exact h.2 j fun z => hj (hT j z)
/-- a block's own names are forgotten -/
theorem Sta.wiped (s : Sta K J σ0 F H env σ O) {vs : List Nat} (hJ : ∀ j ∈ J, j ∉ vs) : Sta K J σ0 F H (wipeE env vs) (wipe σ vs) (fun j a => O j a ∧ j ∉ vs) := by
  refine ⟨fun j u ej => ?_, fun j a h => ?_, fun j k a h1 h2 => s.disj j k a h1.1 h2.1, s.al, fun j hj => ?_, by rw [wipe_length, wipeE_len]; exact s.len⟩
  · obtain ⟨h1, h2⟩ := wipeE_at ej
    obtain ⟨x, ex, w⟩ := s.slot j u h2
    refine ⟨x, by rw [wipe_of h1]; exact ex, ?_⟩
    have eO : (fun a => O j a ∧ j ∉ vs) = O j := by funext a; exact propext ⟨fun z => z.1, fun z => ⟨z, h1⟩⟩
    rw [eO]
    exact w
  · obtain ⟨u, e⟩ := s.emp j a h.1
    exact ⟨u, by rw [wipeE_of h.2]; exact e⟩
  · rw [wipe_of (hJ j hj)]
    exact s.pin j hj
theorem Sta.unwiped {vs : List Nat} (s : Sta K J σ0 F H (wipeE env vs) (wipe σ vs) O) (hJ : ∀ j ∈ J, j ∉ vs) : Sta K J σ0 F H (wipeE env vs) σ O := by
  refine ⟨fun j u ej => ?_, s.emp, s.disj, s.al, fun j hj => ?_, by rw [← s.len, wipe_length]⟩
  · obtain ⟨h1, h2⟩ := wipeE_at ej
    obtain ⟨x, ex, w⟩ := s.slot j u ej
    exact ⟨x, by rw [wipe_of h1] at ex; exact ex, w⟩
  · rw [← s.pin j hj, wipe_of (hJ j hj)]
theorem Stp.ext (st : Stp F H L F' H' L') (M : AS) : Stp F H (fun a => L a ∨ M a) F' H' (fun a => L' a ∨ M a) :=
  ⟨st.mono, fun a f => (st.grow a f).elim .inl fun z => z.elim (fun z => .inr (.inl (.inl z))) fun z => .inr (.inr z), fun a z => z.elim (fun z => (st.own a z).elim (fun z => .inl (.inl z)) .inr) fun z => .inl (.inr z), fun a o e n => st.keep a o e fun z => n (.inl z), st.there⟩
end
section
variable {X : Cx} {J : List Nat} {σ0 : St} {pos : Pos} {ri : RI} {t : TgD} {tc : RT} {f : RE} {T vs : List Nat}
theorem lc_run {σ : St} {H : Hp} {Q : VK} (hJ : ∀ j ∈ J, j ∉ vs) (hT : ∀ j ∈ T, j ∈ vs) (h : rdE X.K J σ0 (lcE ri t tc f vs) σ H Q) : tLc (rdI X.K J σ0 ri) (rdG X.K J σ0 T t) (rdT X.K J σ0 tc) (rdE X.K J σ0 f) vs σ H Q := by
  obtain ⟨F, env, O, s, p⟩ := h
  refine ⟨F, env, O, s, ?_⟩
  unfold lcE at p
  cases q : ri env with
  | none => rw [q] at p; exact p
  | some r =>
    obtain ⟨ds, env1⟩ := r
    rw [q] at p
    dsimp only [Option.bind] at p
    split at p
    case isFalse => exact p.elim
    rename_i hsz
    intro I F1 H1 O1 st1 s1 sv D hD
    have p1 := PostE.after p st1 fun _ z => z
    have nFD : ¬ F1 D := fun z => by obtain ⟨o, e⟩ := s1.al D z; rw [hD] at e; cases e
    have nOD : ¬ Tot O1 D := fun z => by obtain ⟨⟨o, e⟩, _⟩ := s1.own z; rw [hD] at e; cases e
    -- the new list
    have hup : ∀ a o, H1 a = some o → upd H1 D (.lst []) a = some o := upd_keep hD
    have st2 : Stp F1 H1 (Tot O1) F1 (upd H1 D (.lst [])) (fun a => Tot (fun j a => O1 j a ∧ j ∉ vs) a ∨ a = D) :=
      ⟨fun _ z => z, fun _ z => .inl z, fun a z => z.elim (fun ⟨j, z⟩ => .inl ⟨j, z.1⟩) fun z => .inr (by rw [z]; exact hD), fun a o e _ => hup a o e, fun a o e => ⟨o, hup a o e⟩⟩
    have p2 := PostE.after (L1' := fun a => Tot (fun j a => O1 j a ∧ j ∉ vs) a ∨ a = D) p1 st2 fun _ z => z
    have s2 : Sta X.K J σ0 F1 (upd H1 D (.lst [])) env1 σ O1 := s1.grown hup (fun _ z => z) fun _ z => .inl z
    let Fin : AS → Hp → AS → List PyData → Option (List PyData × Ev) → Prop := fun F H L done r => match r with
      | none => False
      | some (more, e) => PostE X.K J σ0 σ Q F H L (some (⟨.list (done ++ more), 1⟩, e))
    have fin_after : ∀ {F H L F' H' L'} {done : List PyData} {r : Option (List PyData × Ev)}, Fin F H L done r → Stp F H L F' H' L' → Fin F' H' L' done r := fun {F H L F' H' L' done r} h st => by
      match r, h with
      | none, h => exact h
      | some (more, e), h => exact PostE.after h st fun _ z => z
    refine ⟨fun i m H => m = ds.length - i ∧ ∃ (F : AS) (e0 : Ev) (O : Nat → AS) (acc : List V) (done : List PyData), Sta X.K J σ0 F H (wipeE e0 vs) (wipe σ vs) O ∧ Serves X.K I ds F H ∧ H D = some (.lst acc) ∧ ¬ F D ∧ ¬ Tot O D ∧ FzL X.K F H acc done ∧ acc.length ≤ i ∧
      Fin F H (fun a => Tot O a ∨ a = D) done (lcL t tc f vs (ds.drop i) (wipeE e0 vs)), ⟨ds.length, by simp, F1, env1, _, [], [], s2.wiped hJ, ?_, upd_same, nFD, fun ⟨j, z⟩ => nOD ⟨j, z.1⟩, .nil, Nat.le_refl _, ?_⟩, ?_⟩
    · exact fun F' H' a1 a2 a3 => sv F' H' a1 (fun a o fa e => a2 a o fa (hup a o e)) a3
    · rw [List.drop_zero]
      cases q3 : lcL t tc f vs ds (wipeE env1 vs) with
      | none => rw [q3] at p2; exact p2
      | some r =>
        rw [q3] at p2
        exact p2
    · clear p p1 p2 s2 st2 sv s1 st1 q s
      rintro i m H ⟨rfl, F, e0, O, acc, done, s, sv, hacc, nF, nO, tacc, hlen, p⟩
      have here := sv F H (fun _ z => z) (fun _ _ _ e => e) s.al i
      by_cases hi : i < ds.length
      · have ed : ds[i]? = some ds[i] := List.getElem?_eq_getElem hi
        obtain ⟨go, yl⟩ := here.1 _ ed
        refine .inr ⟨go, fun H => ∃ (F : AS) (e0 : Ev) (O : Nat → AS) (acc : List V) (done : List PyData), Sta X.K J σ0 F H (wipeE e0 vs) (wipe σ vs) O ∧ Serves X.K I ds F H ∧ H D = some (.lst acc) ∧ ¬ F D ∧ ¬ Tot O D ∧ FzL X.K F H acc done ∧ acc.length ≤ i + 1 ∧
          Fin F H (fun a => Tot O a ∨ a = D) done (lcL t tc f vs (ds.drop (i + 1)) (wipeE e0 vs)), fun H' z => ⟨ds.length - (i + 1), by omega, rfl, z⟩, fun x H2 hy => ?_⟩
        obtain ⟨F2, hH, hF, hg, w⟩ := yl x H2 hy
        have s2 := s.grown hH hF hg
        have hD2 : H2 D = some (.lst acc) := hH _ _ hacc
        have nF2 : ¬ F2 D := fun z => (hg D z).elim nF fun z => by rw [hacc] at z; cases z.1
        have st2 : Stp F H (Tot O) F2 H2 (Tot O) := ⟨hF, fun a f => (hg a f).elim .inl fun z => .inr (.inr z.1), fun a z => .inl z, fun a o e _ => hH a o e, fun a o e => ⟨o, hH a o e⟩⟩
        have p2 := fin_after p (st2.ext (fun a => a = D))
        have sv2 : Serves X.K I ds F2 H2 := fun F' H' a1 a2 a3 => sv F' H' (fun a f => a1 a (hF a f)) (fun a o f e => a2 a o (hF a f) (hH a o e)) a3
        have tacc2 := tacc.mono hF fun a o _ e => hH a o e
        rw [List.drop_eq_getElem_cons hi] at p2
        unfold lcL at p2
        refine ⟨F2, wipeE e0 vs, O, ds[i], s2, w, ?_⟩
        cases q2 : t ds[i] (wipeE e0 vs) with
        | none => rw [q2] at p2; exact p2
        | some e2 =>
          rw [q2] at p2
          dsimp only [Option.bind] at p2
          intro σ3 O3 so l3 s3
          have ew : wipe σ3 vs = wipe σ vs := by
            rw [so.wipe hT]
            apply List.ext_getElem?
            intro j
            by_cases hj : j ∈ vs
            · by_cases hl : j < σ.length
              · rw [wipe_in hj hl, wipe_in hj (by rw [wipe_length]; exact hl)]
              · rw [List.getElem?_eq_none (by rw [wipe_length, wipe_length]; omega), List.getElem?_eq_none (by rw [wipe_length]; omega)]
            · rw [wipe_of hj]
          refine ⟨ew, F2, e2, O3, s3, ?_⟩
          have p3 := fin_after p2 ((Stp.refl F2 H2 (Tot O) (Tot O3) l3).ext (fun a => a = D))
          clear p2 p
          cases q3 : tc e2 with
          | none => rw [q3] at p3; exact p3
          | some r3 =>
            obtain ⟨b, e3⟩ := r3
            rw [q3] at p3
            dsimp only at p3
            intro F4 H4 O4 st4 s4
            have nO3 : ¬ Tot O3 D := fun z => nO (l3 D z)
            have nfr : ∀ a, Tot O3 a → ¬ F2 a := fun a z => (s3.own z).2
            have hD4 : H4 D = some (.lst acc) := st4.keep D _ hD2 nO3
            have nF4 : ¬ F4 D := fun z => by
              rcases st4.grow D z with z | z | z
              · exact nF2 z
              · exact nO3 z
              · rw [hD2] at z; cases z
            have nO4 : ¬ Tot O4 D := fun z => by
              rcases st4.own D z with z | z
              · exact nO3 z
              · rw [hD2] at z; cases z
            have p4 := fin_after p3 (st4.ext (fun a => a = D))
            have tacc4 := tacc2.frame st4 nfr
            have sv4 : Serves X.K I ds F4 H4 := fun F' H' a1 a2 a3 => sv2 F' H' (fun a f => a1 a (st4.mono a f)) (fun a o f e => a2 a o (st4.mono a f) (st4.keep a o e fun z => nfr a z f)) a3
            clear p3 tacc tacc2
            cases b with
            | false =>
              rw [if_neg Bool.false_ne_true] at p4 ⊢
              have s5 := s4.wiped hJ
              rw [ew] at s5
              refine ⟨F4, e3, _, acc, done, s5, sv4, hD4, nF4, fun ⟨j, z⟩ => nO4 ⟨j, z.1⟩, tacc4, by omega, ?_⟩
              exact fin_after p4 ((Stp.refl F4 H4 (Tot O4) _ fun a ⟨j, z⟩ => ⟨j, z.1⟩).ext (fun a => a = D))
            | true =>
              rw [if_pos rfl] at p4 ⊢
              refine ⟨F4, e3, O4, s4, ?_⟩
              cases q5 : f e3 with
              | none => rw [q5] at p4; exact p4
              | some r5 =>
                obtain ⟨⟨d, n⟩, e5⟩ := r5
                rw [q5] at p4
                dsimp only at p4
                split at p4
                case isFalse => exact p4.elim
                rename_i hn
                subst hn
                intro y F6 H6 O6 R6 st6 s6 w6 d6
                have nfr4 : ∀ a, Tot O4 a → ¬ F4 a := fun a z => (s4.own z).2
                have hD6 : H6 D = some (.lst acc) := st6.keep D _ hD4 nO4
                have nF6 : ¬ F6 D := fun z => by
                  rcases st6.grow D z with z | z | z
                  · exact nF4 z
                  · exact nO4 z
                  · rw [hD4] at z; cases z
                have nO6 : ¬ Tot O6 D := fun z => by
                  rcases st6.own D (.inl z) with z | z
                  · exact nO4 z
                  · rw [hD4] at z; cases z
                have wy : Fz X.K F6 H6 y d := by cases w6 with | fz h _ _ => exact h
                have tacc6 := tacc4.frame st6 nfr4
                have up6 : ∀ a o, H6 a = some o → a ≠ D → upd H6 D (.lst (acc ++ [y])) a = some o := fun a o e ne => by rw [upd_ne ne]; exact e
                have upF : ∀ a o, F6 a → H6 a = some o → upd H6 D (.lst (acc ++ [y])) a = some o := fun a o f e => up6 a o e fun z => nF6 (by rw [← z]; exact f)
                refine ⟨acc, hD6, by omega, F6, e5, fun j a => O6 j a ∧ j ∉ vs, acc ++ [y], done ++ [d], ?_, ?_, upd_same, nF6, fun ⟨j, z⟩ => nO6 ⟨j, z.1⟩, ?_, by rw [List.length_append]; simp; omega, ?_⟩
                · have s7 := s6.wiped hJ
                  rw [ew] at s7
                  refine ⟨fun j u ej => ?_, s7.emp, s7.disj, fun a fa => ?_, s7.pin, s7.len⟩
                  · obtain ⟨x, ex, w⟩ := s7.slot j u ej
                    exact ⟨x, ex, w.mono (fun _ z => z) upF (fun a o z e => up6 a o e fun zz => nO6 ⟨j, by rw [← zz]; exact z.1⟩) fun a z => (w.alloc a z).2⟩
                  · obtain ⟨o, e⟩ := s6.al a fa
                    exact ⟨o, upF a o fa e⟩
                · exact fun F' H' a1 a2 a3 => sv4 F' H' (fun a fa => a1 a (st6.mono a fa)) (fun a o fa e => a2 a o (st6.mono a fa) (upF a o (st6.mono a fa) (st6.keep a o e fun z => nfr4 a z fa))) a3
                · exact (tacc6.mono (fun _ z => z) upF).append (.cons (wy.mono (fun _ z => z) upF) .nil)
                · have stf : Stp F4 H4 (fun a => Tot O4 a ∨ a = D) F6 (upd H6 D (.lst (acc ++ [y]))) (fun a => Tot (fun j a => O6 j a ∧ j ∉ vs) a ∨ a = D) := by
                    refine ⟨st6.mono, fun a fa => (st6.grow a fa).elim .inl fun z => z.elim (fun z => .inr (.inl (.inl z))) fun z => .inr (.inr z), fun a z => ?_, fun a o e n => up6 a o (st6.keep a o e fun z => n (.inl z)) fun z => n (.inr z), fun a o e => ?_⟩
                    · rcases z with ⟨j, z⟩ | z
                      · exact (st6.own a (.inl ⟨j, z.1⟩)).elim (fun z => .inl (.inl z)) .inr
                      · exact .inl (.inr z)
                    · by_cases ea : a = D
                      · subst ea
                        exact ⟨_, upd_same⟩
                      · obtain ⟨o', e'⟩ := st6.there a o e
                        exact ⟨o', up6 a o' e' ea⟩
                  have p7 := fin_after p4 stf
                  cases q7 : lcL t tc f vs (ds.drop (i + 1)) (wipeE e5 vs) with
                  | none => rw [q7] at p7; exact p7
                  | some r7 =>
                    rw [q7] at p7
                    show PostE _ _ _ _ _ _ _ _ (some (⟨.list (done ++ [d] ++ r7.1), 1⟩, r7.2))
                    rw [List.append_assoc]
                    exact p7
      · have e0' : ds.drop i = [] := List.drop_of_length_le (by omega)
        rw [e0'] at p
        refine .inl ⟨here.2 (by omega), ?_⟩
        have p' : PostE X.K J σ0 σ Q F H (fun a => Tot O a ∨ a = D) (some (⟨.list (done ++ []), 1⟩, wipeE e0 vs)) := p
        rw [List.append_nil] at p'
        refine p' (.ref D) F H O (fun a => a = D) (.refl _ _ _ _ fun _ z => z) (s.unwiped hJ) ?_ fun a z e => nO (by rw [← e]; exact z)
        exact .lst (n := 0) hacc nF tacc.owL (fun z => z) (by intro b; simp)
theorem _root_.L2.PTs.conseq {X : Cx} {e : List Expr} {t t' : TT} (h : PTs X e t) (c : ∀ σ H Q, t' σ H Q → t σ H Q) : PTs X e t' := ⟨fun pins s σ H Q I hw => h.run pins s σ H Q I (c σ H Q hw)⟩
theorem ts_nil : PTs X [] (rdT X.K J σ0 yesT) := pts_nil.conseq fun σ H Q ⟨F, env, O, s, p⟩ => p F H O (.refl _ _ _ _ fun _ z => z) s
theorem ts_one {c : Expr} (h : PT X c (rdT X.K J σ0 tc)) : PTs X [c] (rdT X.K J σ0 tc) := pts_one h
variable {elt tg iter : Expr} {ifs : List Expr} {scope : Scope} {own : List (Str × Nat)}
theorem e_lc (hc : X.calm = true) (hN : X.N.Nodup) (ok : blkC X.N X.env.scope scope own = true) (hJ : ∀ j ∈ J, j ∉ own.map (·.2)) (hT : ∀ j ∈ T, j ∈ own.map (·.2)) (hi : PI X tg iter (rdI X.K J σ0 ri))
    (hg : ∀ (s : Shared) (H : Hp) (C : Addr) (cl : List (Str × Addr)) (fp : List Addr), PG (X.blk s H scope (compEnvC scope cl C X.env) fp) tg (rdG X.K J σ0 T t)) (ht : ∀ (s : Shared) (H : Hp) (C : Addr) (cl : List (Str × Addr)) (fp : List Addr), PTs (X.blk s H scope (compEnvC scope cl C X.env) fp) ifs (rdT X.K J σ0 tc))
    (he : ∀ (s : Shared) (H : Hp) (C : Addr) (cl : List (Str × Addr)) (fp : List Addr), PE (X.blk s H scope (compEnvC scope cl C X.env) fp) elt (rdE X.K J σ0 f)) (hs : ∀ x, foldedSetIterable iter X.env x = pure x := by intro _; rfl) :
    PE X (.ListComp elt [⟨tg, iter, ifs, 0⟩] scope pos) (rdE X.K J σ0 (lcE ri t tc f (own.map (·.2)))) :=
  (pe_lc hc hN hi (blkOk_by ok) hg ht he hs).conseq fun σ H Q h => lc_run hJ hT h
theorem s_asgLc {i : Nat} {y : Str} {py spos : Pos} (hc : X.calm = true) (hN : X.N.Nodup) (hy : X.N[i]? = some y) (hyl : X.env.scope.names.lookup y = some .local) (hJi : i ∉ J) (ok : blkC X.N X.env.scope scope own = true) (hJ : ∀ j ∈ J, j ∉ own.map (·.2)) (hT : ∀ j ∈ T, j ∈ own.map (·.2))
    (hsw : swapsWith (.ListComp elt [⟨tg, iter, ifs, 0⟩] scope pos) (some (.Name y py)) spos.line X.env = pure true) (hi : PI X tg iter (rdI X.K J σ0 ri))
    (hg : ∀ (s : Shared) (H : Hp) (C : Addr) (cl : List (Str × Addr)) (fp : List Addr), PG (X.blk s H scope (compEnvC scope cl C X.env) fp) tg (rdG X.K J σ0 T t)) (ht : ∀ (s : Shared) (H : Hp) (C : Addr) (cl : List (Str × Addr)) (fp : List Addr), PTs (X.blk s H scope (compEnvC scope cl C X.env) fp) ifs (rdT X.K J σ0 tc))
    (he : ∀ (s : Shared) (H : Hp) (C : Addr) (cl : List (Str × Addr)) (fp : List Addr), PE (X.blk s H scope (compEnvC scope cl C X.env) fp) elt (rdE X.K J σ0 f)) (hs : ∀ x, foldedSetIterable iter X.env x = pure x := by intro _; rfl) :
    PS X (.Assign [.Name y py] (.ListComp elt [⟨tg, iter, ifs, 0⟩] scope pos) spos) (rdS X.K J σ0 (asgS i (lcE ri t tc f (own.map (·.2))))) :=
  (ps_setLc hc hN hy hyl hsw hi (blkOk_by ok) hg ht he hs).conseq fun Dn σ H h => by
    obtain ⟨F, env, O, s, p⟩ := asg_run hJi h
    exact lc_run hJ hT ⟨F, env, O, s, p⟩
end
end Dn
end
section
set_option Elab.async false
set_option linter.all false
set_option maxRecDepth 100000
set_option maxHeartbeats 4000000
namespace Dn
open PySem L2
open PyProof.Rows (envOfC)
/-! ### calls -/
abbrev DF := List Val → Option (Val × Ev)
def startE (N : Nat) (as : List Val) : Ev := as.map some ++ List.replicate (N - as.length) none
def runB (N : Nat) (b : RS) : DF := fun as => match b (startE N as) with
  | some (.nx, e) => some (fz .none, e)
  | some (.rt v, e) => some (v, e)
  | _ => none
/-- what a def promises: n arguments; the parameters at J come back -/
def spD (K : PySem.W.Frag) (J : List Nat) (n : Nat) (f : DF) : Sp := fun vs H Q _ => vs.length = n ∧ ∃ (F : AS) (as : List Val) (O : Nat → AS), Sta K [] [] F H (as.map some) (vs.map some) O ∧ ∃ r fin, f as = some (r, fin) ∧
  ∀ x F' H' R O' σ', Stp F H (Tot O) F' H' (fun a => Tot O' a ∨ R a) → Sta K J (vs.map some) F' H' fin σ' O' → Ow K F' H' r.n x r.d R → (∀ a, Tot O' a → R a → False) → Q x H'
section
variable {K : PySem.W.Frag} {J : List Nat} {σ0 : St} {F F' F1 F2 : AS} {H H' H1 H2 : Hp} {env env' env1 : Ev} {σ σ' : St} {O O' O1 O2 : Nat → AS} {R R1 R2 : AS}
theorem Sta.start {as : List Val} {vs : List V} {N : Nat} (s : Sta K [] [] F H (as.map some) (vs.map some) O) {Nm : List Str} (hN : Nm.length = N) : Sta K J (L2.start Nm vs) F H (startE N as) (L2.start Nm vs) O := by
  have hl : vs.length = as.length := by have := s.len; simpa using this
  refine ⟨fun i v e => ?_, fun i a o => ?_, s.disj, s.al, fun _ _ => rfl, by unfold L2.start startE; simp [hN, hl]⟩
  · unfold startE at e
    by_cases hi : i < as.length
    · rw [List.getElem?_append_left (by simpa using hi)] at e
      obtain ⟨x, ex, w⟩ := s.slot i v e
      refine ⟨x, ?_, w⟩
      unfold L2.start
      rw [List.getElem?_append_left (by simpa [hl] using hi)]
      exact ex
    · rw [List.getElem?_append_right (by simpa using hi)] at e
      rw [List.getElem?_replicate] at e
      split at e <;> cases e
  · obtain ⟨v, e⟩ := s.emp i a o
    refine ⟨v, ?_⟩
    have hi : i < (as.map some).length := (List.getElem?_eq_some_iff.mp e).1
    unfold startE
    rw [List.getElem?_append_left hi]
    exact e
theorem start_at {Nm : List Str} {vs : List V} {j : Nat} (h : j < vs.length) : (L2.start Nm vs)[j]? = (vs.map some)[j]? := by
  unfold L2.start
  rw [List.getElem?_append_left (by simpa using h)]
end
theorem fn_den {P : Program} {w : World} {K : PySem.W.Frag} {mg : Str → Option Value} {base : Heap} {x qual : Str} {st : Stmt} {f : Addr} {fd : FuncData} {N ps : List Str} {k n : Nat} {J : List Nat} {b : RS} (F : Fun K x qual st f fd) (S : FnScope N ps (defScope st)) (hn : ps.length = n) (hJ : ∀ j ∈ J, j < n)
    (hb : ∀ (cdv : Value) (A : Around) (outer : List PySem.Env) (s : Shared) (H : Hp) (σ0 : St), RoomG k (A.deeper (envOfC qual (defScope st) s.heap.objs.size f cdv)) → PSs (cxOf CX0 P w K mg base N qual (defScope st) f cdv A outer s H E0).nox (defBody st) (rdS K J σ0 b)) :
    FnG P w K mg base (k + 1) f fd ps (spD K J n (runB N.length b)) := by
  refine Fun.okG F S (fun vs H Q E h => h.1.trans hn.symm) fun cdv A outer s H vs Q hr h => ?_
  obtain ⟨hl, Fr, as, O, sa, r, fin, e, h⟩ := h
  refine ⟨_, hb cdv A outer s H (L2.start N vs) hr, Fr, startE N.length as, O, sa.start rfl, ?_⟩
  have pins : ∀ {F' : AS} {H' : Hp} {e' : Ev} {σ' : St} {O' : Nat → AS}, Sta K J (L2.start N vs) F' H' e' σ' O' → Sta K J (vs.map some) F' H' e' σ' O' := fun s' =>
    ⟨s'.slot, s'.emp, s'.disj, s'.al, fun j hj => by rw [s'.pin j hj, start_at (by rw [hl]; exact hJ j hj)], s'.len⟩
  unfold runB at e
  cases q : b (startE N.length as) with
  | none => rw [q] at e; cases e
  | some p =>
    obtain ⟨fl, e2⟩ := p
    rw [q] at e
    cases fl with
    | nx =>
      cases e
      exact fun σ' F' H' O' st s' => h .non F' H' (fun _ => False) O' σ' (st.less fun a z => z.elim id False.elim) (pins s') (.of_fz .non) fun _ _ z => z
    | rt v =>
      cases e
      exact fun x σ' F' H' O' R st s' w d => h x F' H' R O' σ' st (pins s') w d
    | bk => cases e
    | ct => cases e
/-! no list or dict within -/
mutual
def imm : D → Bool
  | .list _ => false
  | .dict _ => false
  | .tuple ds => immL ds
  | _ => true
def immL : List D → Bool
  | [] => true
  | d :: ds => imm d && immL ds
end
def isLD : HO → Bool
  | .lst _ => true
  | .dK _ => true
  | _ => false
section
variable {K : PySem.W.Frag} {J : List Nat} {σ0 : St} {F F' F1 F2 B : AS} {H H' H1 H2 : Hp} {env env' env1 : Ev} {σ σ' : St} {O O' O1 O2 : Nat → AS} {R R1 R2 : AS}
mutual
theorem imm_out (hB : ∀ a, B a → ∃ u, H a = some u ∧ isLD u = true) : ∀ {x : V} {d : D}, imm d = true → Fz K F H x d → Fz K (fun a => F a ∧ ¬ B a) H x d
  | _, _, _, .non => .non
  | _, _, _, .bl b => .bl b
  | _, _, _, .int i => .int i
  | _, _, _, .str s => .str s
  | _, _, h, .tup a t => .tup ⟨⟨a.1, fun z => by obtain ⟨u, e, k⟩ := hB _ z; rw [a.2] at e; cases e; cases k⟩, a.2⟩ (immL_out hB (by unfold imm at h; exact h) t)
  | _, _, h, .tupK a t => .tupK a (immL_out hB (by unfold imm at h; exact h) t)
  | _, _, h, .lst _ _ => by unfold imm at h; cases h
  | _, _, h, .dK _ _ => by unfold imm at h; cases h
theorem immL_out (hB : ∀ a, B a → ∃ u, H a = some u ∧ isLD u = true) : ∀ {x : List V} {d : List D}, immL d = true → FzL K F H x d → FzL K (fun a => F a ∧ ¬ B a) H x d
  | _, _, _, .nil => .nil
  | _, _, h, .cons a t => by
    unfold immL at h
    rw [Bool.and_eq_true] at h
    exact .cons (imm_out hB h.1 a) (immL_out hB h.2 t)
end
mutual
theorem Ow.kind : ∀ {n : Nat} {x : V} {d : D} {O : AS}, Ow K F H n x d O → ∀ a, O a → ∃ u, H a = some u ∧ isLD u = true
  | _, _, _, _, .fz _ _ e, a, h => (e a h).elim
  | _, _, _, _, .lst h _ t _ i, a, z => ((i a).mp z).elim (fun r => by subst r; exact ⟨_, h, rfl⟩) fun r => OwL.kind t a r
  | _, _, _, _, .dK h _ t _ i, a, z => ((i a).mp z).elim (fun r => by subst r; exact ⟨_, h, rfl⟩) fun r => OwK.kind t a r
theorem OwL.kind : ∀ {n : Nat} {xs : List V} {ds : List D} {O : AS}, OwL K F H n xs ds O → ∀ a, O a → ∃ u, H a = some u ∧ isLD u = true
  | _, _, _, _, .nil e, a, h => (e a h).elim
  | _, _, _, _, .cons h t _ i, a, z => ((i a).mp z).elim (fun r => Ow.kind h a r) fun r => OwL.kind t a r
theorem OwK.kind : ∀ {n : Nat} {xs : List (Key × V)} {ds : List (D × D)} {O : AS}, OwK K F H n xs ds O → ∀ a, O a → ∃ u, H a = some u ∧ isLD u = true
  | _, _, _, _, .nil e, a, h => (e a h).elim
  | _, _, _, _, .cons h t _ i, a, z => ((i a).mp z).elim (fun r => Ow.kind h a r) fun r => OwK.kind t a r
end
theorem imm_fz {n : Nat} {x : V} {d : D} (hi : imm d = true) (w : Ow K F H n x d R) : Fz K F H x d := by
  cases w with
  | fz h _ _ => exact h
  | lst => unfold imm at hi; cases hi
  | dK => unfold imm at hi; cases hi
/-! arguments -/
def valOf (env : Ev) : Sum Nat Val → Option Val
  | .inl i => (at_ env i).map fun v => fz v.d
  | .inr v => some v
def valsOf (env : Ev) : List (Sum Nat Val) → Option (List Val)
  | [] => some []
  | p :: ps => (valOf env p).bind fun v => (valsOf env ps).map fun vs => v :: vs
def nmsOf : List (Sum Nat Val) → List Nat
  | [] => []
  | .inl i :: ps => i :: nmsOf ps
  | .inr _ :: ps => nmsOf ps
def frzOne (env : Ev) (i : Nat) : Ev := match at_ env i with
  | some v => if v.n = 0 then env else env.set i (some (fz v.d))
  | none => env
def frzAll (env : Ev) : List Nat → Ev
  | [] => env
  | i :: is => frzAll (frzOne env i) is
/-- what named slots own -/
def Bor (O : Nat → AS) (is : List Nat) : AS := fun a => ∃ i, i ∈ is ∧ O i a
theorem args_sta (s : Sta K J σ0 F H env σ O) : ∀ {xs : List V} {ps : List (Sum Nat Val)} {R : AS} {as : List Val} {is : List Nat}, OpsAt K F H σ xs ps R → (∀ a, Tot O a → R a → False) → valsOf env ps = some as → (∀ i ∈ nmsOf ps, i ∈ is) →
    ∃ Oc, Sta K [] [] (fun a => F a ∨ Bor O is a) H (as.map some) (xs.map some) Oc ∧ ∀ a, Tot Oc a ↔ R a
  | _, _, R, _, is, .nil hR, _, e, _ => by
    cases e
    refine ⟨fun _ _ => False, ⟨fun i v e => by simp at e, fun _ _ z => z.elim, fun _ _ _ z => z.elim, fun a f => ?_, (fun _ z => nomatch z), rfl⟩, fun a => ⟨fun z => z.elim fun _ z => z.elim, fun z => (hR a z).elim⟩⟩
    rcases f with f | ⟨i, _, z⟩
    · exact s.al a f
    · exact (s.own ⟨i, z⟩).1
  | _, _, R, _, is, .cons (x := x) (p := p) (xs := xs) (ps := ps) (R1 := R1) (R2 := R2) h t dj i, hd, e, hn => by
    unfold valsOf at e
    cases q : valOf env p with
    | none => rw [q] at e; cases e
    | some v =>
      rw [q] at e
      dsimp only [Option.bind] at e
      cases q2 : valsOf env ps with
      | none => rw [q2] at e; cases e
      | some vs =>
        rw [q2] at e; cases e
        obtain ⟨Oc, sc, hc⟩ := args_sta s t (fun a z r => hd a z ((i a).mpr (.inr r))) q2 (is := is) fun j hj => hn j (by
          cases p with
          | inl k => exact List.mem_cons_of_mem _ hj
          | inr u => exact hj)
        have w1 : Ow K (fun a => F a ∨ Bor O is a) H v.n x v.d R1 := by
          cases p with
          | inl k =>
            unfold valOf at q
            dsimp only at q
            cases q3 : at_ env k with
            | none => rw [q3] at q; cases q
            | some u =>
              rw [q3] at q; cases q
              obtain ⟨y, ey, w⟩ := s.slot k u (at_some q3)
              rw [h.1] at ey; cases ey
              have hk : k ∈ is := hn k (List.mem_cons_self ..)
              exact .fz (w.freeze (fun _ f => .inl f) fun a o => .inr ⟨k, hk, o⟩) (.inl rfl) h.2
          | inr u =>
            cases q
            have w : Ow K F H v.n x v.d R1 := h
            refine w.mono (fun _ f => .inl f) (fun _ _ _ e => e) (fun _ _ _ e => e) fun a r f => ?_
            rcases f with f | ⟨j, _, z⟩
            · exact (w.alloc a r).2 f
            · exact hd a ⟨j, z⟩ ((i a).mpr (.inl r))
        refine ⟨fun k => match k with | 0 => R1 | k + 1 => Oc k, ⟨fun j u ej => ?_, fun j a o => ?_, fun j k a o1 o2 => ?_, sc.al, (fun _ z => nomatch z), by simpa using sc.len⟩, fun a => ?_⟩
        · cases j with
          | zero => simp at ej; subst ej; exact ⟨x, rfl, w1⟩
          | succ j =>
            obtain ⟨y, ey, w⟩ := sc.slot j u (by simpa using ej)
            exact ⟨y, by simpa using ey, w⟩
        · cases j with
          | zero => exact ⟨v, rfl⟩
          | succ j =>
            obtain ⟨u, eu⟩ := sc.emp j a o
            exact ⟨u, by simpa using eu⟩
        · cases j with
          | zero =>
            cases k with
            | zero => rfl
            | succ k => exact (dj a o1 ((hc a).mp ⟨k, o2⟩)).elim
          | succ j =>
            cases k with
            | zero => exact (dj a o2 ((hc a).mp ⟨j, o1⟩)).elim
            | succ k => exact congrArg (· + 1) (sc.disj j k a o1 o2)
        · rw [i a, ← hc a]
          constructor
          · rintro ⟨k, z⟩
            cases k with
            | zero => exact .inl z
            | succ k => exact .inr ⟨k, z⟩
          · rintro (z | ⟨k, z⟩)
            · exact ⟨0, z⟩
            · exact ⟨k + 1, z⟩
theorem frzOne_at {i j : Nat} {v : Val} (e : (frzOne env i)[j]? = some (some v)) : (j = i ∧ v.n = 0 ∧ ∃ u, env[i]? = some (some u) ∧ u.d = v.d) ∨ (j ≠ i ∧ env[j]? = some (some v)) := by
  unfold frzOne at e
  cases q : at_ env i with
  | none =>
    rw [q] at e
    refine .inr ⟨fun z => ?_, e⟩
    subst z
    unfold at_ at q
    dsimp only at e
    rw [e] at q; cases q
  | some u =>
    have eu := at_some q
    rw [q] at e
    dsimp only at e
    by_cases hj : j = i
    · subst hj
      refine .inl ⟨rfl, ?_⟩
      split at e
      · rename_i hn
        rw [eu] at e; cases e
        exact ⟨hn, _, eu, rfl⟩
      · rw [List.getElem?_set_self (List.getElem?_eq_some_iff.mp eu).1] at e
        cases e
        exact ⟨rfl, _, eu, rfl⟩
    · refine .inr ⟨hj, ?_⟩
      split at e
      · exact e
      · rw [List.getElem?_set_ne (Ne.symm hj)] at e
        exact e
theorem frzOne_some {i j : Nat} {v : Val} (e : env[j]? = some (some v)) : ∃ u, (frzOne env i)[j]? = some (some u) := by
  unfold frzOne
  cases q : at_ env i with
  | none => exact ⟨v, e⟩
  | some u =>
    dsimp only
    split
    · exact ⟨v, e⟩
    · by_cases hj : j = i
      · subst hj
        exact ⟨_, List.getElem?_set_self (List.getElem?_eq_some_iff.mp e).1⟩
      · rw [List.getElem?_set_ne (Ne.symm hj)]
        exact ⟨v, e⟩
theorem frzOne_len {i : Nat} : (frzOne env i).length = env.length := by
  unfold frzOne
  split
  · split
    · rfl
    · rw [List.length_set]
  · rfl
theorem frzAll_len : ∀ {is : List Nat} {env : Ev}, (frzAll env is).length = env.length
  | [], _ => rfl
  | i :: is, env => by unfold frzAll; rw [frzAll_len, frzOne_len]
theorem frzAll_some : ∀ {is : List Nat} {env : Ev} {j : Nat} {v : Val}, env[j]? = some (some v) → ∃ u, (frzAll env is)[j]? = some (some u)
  | [], _, _, v, e => ⟨v, e⟩
  | i :: is, env, j, v, e => by
    obtain ⟨u, e'⟩ := frzOne_some (i := i) e
    unfold frzAll
    exact frzAll_some e'
theorem frzAll_at : ∀ {is : List Nat} {env : Ev} {j : Nat} {v : Val}, (frzAll env is)[j]? = some (some v) → (j ∈ is ∧ v.n = 0 ∧ ∃ u, env[j]? = some (some u) ∧ u.d = v.d) ∨ (j ∉ is ∧ env[j]? = some (some v))
  | [], _, _, _, e => .inr ⟨by simp, e⟩
  | i :: is, env, j, v, e => by
    unfold frzAll at e
    rcases frzAll_at e with ⟨h1, h2, u, h3, h4⟩ | ⟨h1, h2⟩
    · rcases frzOne_at h3 with ⟨h5, h6, u2, h7, h8⟩ | ⟨h5, h6⟩
      · subst h5
        exact .inl ⟨List.mem_cons_of_mem _ h1, h2, u2, h7, h8.trans h4⟩
      · exact .inl ⟨List.mem_cons_of_mem _ h1, h2, u, h6, h4⟩
    · rcases frzOne_at h2 with ⟨h5, h6, u2, h7, h8⟩ | ⟨h5, h6⟩
      · subst h5
        exact .inl ⟨List.mem_cons_self .., h6, u2, h7, h8⟩
      · exact .inr ⟨by simp [h5, h1], h6⟩
end
/-- a call: the def's function, its operands -/
def callE (f : DF) (os : List Opd) : RE := fun env => (rN os env).bind fun p => (valsOf p.2 p.1).bind fun as => (f as).map fun r => if imm r.1.d = true then (fz r.1.d, p.2) else (r.1, frzAll p.2 (nmsOf p.1))
section
variable {X : Cx} {J : List Nat} {σ0 : St} {pos : Pos} {ri : RI} {t : TgD} {tc : RT} {T vs : List Nat} {f : DF} {os : List Opd}
theorem call_run {σ : St} {H : Hp} {Q : VK} {n : Nat} (h : rdE X.K J σ0 (callE f os) σ H Q) (hn : os.length = n) : tCallG (spD X.K [] n f) (tOs X.K J σ0 os) σ H Q := by
  obtain ⟨F, env, O, s, h⟩ := h
  unfold callE at h
  cases q : rN os env with
  | none => rw [q] at h; exact h.elim
  | some p =>
    obtain ⟨ps, env1⟩ := p
    rw [q] at h
    dsimp only [Option.bind] at h
    cases q2 : valsOf env1 ps with
    | none => rw [q2] at h; exact h.elim
    | some as =>
      rw [q2] at h
      dsimp only at h
      cases q3 : f as with
      | none => rw [q3] at h; exact h.elim
      | some rf =>
        obtain ⟨r, fin⟩ := rf
        rw [q3] at h
        dsimp only [Option.map_some] at h
        refine tOs_run s q fun xs F1 H1 O1 R1 st1 s1 w1 d1 => ?_
        obtain ⟨Oc, sc, hc⟩ := args_sta s1 w1 d1 q2 (is := nmsOf ps) fun _ z => z
        have hlen : xs.length = n := by
          have e1 : ∀ {os : List Opd} {ps : List (Sum Nat Val)} {env env1 : Ev}, rN os env = some (ps, env1) → ps.length = os.length := by
            intro os
            induction os with
            | nil => intro ps env env1 e; cases e; rfl
            | cons o os ih =>
              intro ps env env1 e
              unfold rN at e
              cases q : r1 o env with
              | none => rw [q] at e; cases e
              | some r =>
                rw [q] at e
                dsimp only [Option.bind] at e
                cases q2 : rN os r.2 with
                | none => rw [q2] at e; cases e
                | some r2 =>
                  rw [q2] at e; cases e
                  rw [List.length_cons, List.length_cons, ih q2]
          have e2 : ∀ {xs : List V} {ps : List (Sum Nat Val)} {R : AS}, OpsAt X.K F1 H1 σ xs ps R → xs.length = ps.length := by
            intro xs ps R w
            induction w with
            | nil _ => rfl
            | cons _ _ _ _ ih => rw [List.length_cons, List.length_cons, ih]
          rw [e2 w1, e1 q, hn]
        refine ⟨hlen, _, as, Oc, sc, r, fin, q3, fun x F' H' R O' σ' st s' w dj => ?_⟩
        have B1 : ∀ a, Bor O1 (nmsOf ps) a → Tot O1 a := fun a ⟨i, _, z⟩ => ⟨i, z⟩
        have keep : ∀ a o, H1 a = some o → ¬ R1 a → H' a = some o := fun a o e n => st.keep a o e fun z => n ((hc a).mp z)
        have nR1F : ∀ a, R1 a → ¬ F1 a := fun a z => (w1.alloc a z).2
        have grow : ∀ a, F' a → F1 a ∨ Bor O1 (nmsOf ps) a ∨ R1 a ∨ H1 a = none := fun a z => by
          rcases st.grow a z with (z | z) | z | z
          · exact .inl z
          · exact .inr (.inl z)
          · exact .inr (.inr (.inl ((hc a).mp z)))
          · exact .inr (.inr (.inr z))
        have grow0 : ∀ a, F' a → F a ∨ Tot O a ∨ H a = none := fun a z => by
          rcases grow a z with z | z | z | z
          · exact st1.grow a z
          · exact .inr (st1.own a (.inl (B1 a z)))
          · exact .inr (st1.own a (.inr z))
          · exact .inr (.inr (none_of_there st1.there z))
        have keep0 : ∀ a o, H a = some o → ¬ Tot O a → H' a = some o := fun a o e n => keep a o (st1.keep a o e n) fun z => by
          rcases st1.own a (.inr z) with y | y
          · exact n y
          · rw [e] at y; cases y
        have there0 : ∀ a o, H a = some o → ∃ o', H' a = some o' := fun a o e => by
          obtain ⟨o1, e1⟩ := st1.there a o e
          exact st.there a o1 e1
        have ownR : ∀ a, R a → Tot O a ∨ H a = none := fun a z => by
          rcases st.own a (.inr z) with z | z
          · exact st1.own a (.inr ((hc a).mp z))
          · exact .inr (none_of_there st1.there z)
        -- the slots that are not looked at
        have slotK : ∀ (i : Nat) (v : Val) (x : V), σ[i]? = some (some x) → Ow X.K F1 H1 v.n x v.d (O1 i) → ∀ F2 : AS, (∀ a, F1 a → F2 a) → (∀ a, O1 i a → ¬ F2 a) → Ow X.K F2 H' v.n x v.d (O1 i) := fun i v x _ w F2 h1 h2 =>
          w.mono h1 (fun a o f e => keep a o e fun z => nR1F a z f) (fun a o z e => keep a o e fun y => d1 a ⟨i, z⟩ y) h2
        have notF : ∀ i a, O1 i a → F' a → Bor O1 (nmsOf ps) a := fun i a z f => by
          obtain ⟨⟨o, e⟩, nf⟩ := s1.own ⟨i, z⟩
          rcases grow a f with y | y | y | y
          · exact (nf y).elim
          · exact y
          · exact (d1 a ⟨i, z⟩ y).elim
          · rw [e] at y; cases y
        by_cases hi : imm r.d = true
        · rw [if_pos hi] at h
          refine h x (fun a => F' a ∧ ¬ Bor O1 (nmsOf ps) a) H' O1 (fun _ => False) ⟨fun a f => ⟨st.mono a (.inl (st1.mono a f)), fun z => (s1.own (B1 a z)).2 (st1.mono a f)⟩, fun a f => grow0 a f.1, fun a z => z.elim (fun z => st1.own a (.inl z)) False.elim, keep0, there0⟩
            ⟨fun i v e => ?_, s1.emp, s1.disj, fun a f => s'.al a f.1, s1.pin, s1.len⟩ (.of_fz (imm_out (fun a z => ?_) hi (imm_fz hi w))) fun _ _ z => z
          · obtain ⟨y, ey, wy⟩ := s1.slot i v e
            exact ⟨y, ey, slotK i v y ey wy _ (fun a f => ⟨st.mono a (.inl f), fun z => (s1.own (B1 a z)).2 f⟩) fun a z f => f.2 (notF i a z f.1)⟩
          · obtain ⟨i, _, z⟩ := z
            obtain ⟨v, e⟩ := s1.emp i a z
            obtain ⟨y, ey, wy⟩ := s1.slot i v e
            obtain ⟨u, eu, k⟩ := wy.kind a z
            exact ⟨u, keep a u eu fun y => d1 a ⟨i, z⟩ y, k⟩
        · rw [if_neg hi] at h
          refine h x F' H' (fun i a => O1 i a ∧ i ∉ nmsOf ps) R ⟨fun a f => st.mono a (.inl (st1.mono a f)), grow0, fun a z => ?_, keep0, there0⟩ ⟨fun i v e => ?_, fun i a z => ?_, fun i j a z1 z2 => s1.disj i j a z1.1 z2.1, s'.al, s1.pin, by rw [frzAll_len]; exact s1.len⟩ w fun a ⟨i, z⟩ rz => ?_
          · rcases z with ⟨i, z⟩ | z
            · exact st1.own a (.inl ⟨i, z.1⟩)
            · exact ownR a z
          · rcases frzAll_at e with ⟨h1, h2, u, h3, h4⟩ | ⟨h1, h2⟩
            · obtain ⟨y, ey, wy⟩ := s1.slot i u h3
              refine ⟨y, ey, .fz ?_ (.inl h2) fun a z => z.2 h1⟩
              rw [← h4]
              refine (wy.freeze (F' := fun a => F1 a ∨ Bor O1 (nmsOf ps) a) (fun _ f => .inl f) fun a o => .inr ⟨i, h1, o⟩).mono st.mono fun a o f e => keep a o e fun z => ?_
              rcases f with f | f
              · exact nR1F a z f
              · exact d1 a (B1 a f) z
            · obtain ⟨y, ey, wy⟩ := s1.slot i v h2
              refine ⟨y, ey, ?_⟩
              have eO : (fun a => O1 i a ∧ i ∉ nmsOf ps) = O1 i := by funext a; exact propext ⟨fun z => z.1, fun z => ⟨z, h1⟩⟩
              rw [eO]
              refine slotK i v y ey wy _ (fun a f => st.mono a (.inl f)) fun a z f => ?_
              obtain ⟨j, hj, zj⟩ := notF i a z f
              exact h1 (by rw [s1.disj i j a z zj]; exact hj)
          · obtain ⟨u, e⟩ := s1.emp i a z.1
            exact frzAll_some e
          · rcases st.own a (.inr rz) with y | y
            · exact d1 a ⟨i, z.1⟩ ((hc a).mp y)
            · obtain ⟨⟨o, e⟩, _⟩ := s1.own ⟨i, z.1⟩
              rw [e] at y; cases y
end
end Dn
end
section
set_option Elab.async false
set_option linter.all false
set_option maxRecDepth 100000
set_option maxHeartbeats 4000000
namespace Dn
open PySem L2
/-- a call that changes its first operand, a name -/
def callIO (f : DF) (i : Nat) (os : List Opd) : RE := fun env => if has env i = true then (rN os env).bind fun p => match at_ p.2 i with
  | some u => if i ∈ nmsOf p.1 then none else (valsOf p.2 p.1).bind fun as => (f (u :: as)).map fun r => (r.1, (frzAll p.2 (nmsOf p.1)).set i (at_ r.2 0))
  | none => none else none
section
variable {X : Cx} {J : List Nat} {σ0 : St} {pos : Pos} {f : DF} {os : List Opd}
theorem rN_len : ∀ {os : List Opd} {ps : List (Sum Nat Val)} {env env1 : Ev}, rN os env = some (ps, env1) → ps.length = os.length
  | [], ps, env, env1, e => by cases e; rfl
  | o :: os, ps, env, env1, e => by
    unfold rN at e
    cases q : r1 o env with
    | none => rw [q] at e; cases e
    | some r =>
      rw [q] at e
      dsimp only [Option.bind] at e
      cases q2 : rN os r.2 with
      | none => rw [q2] at e; cases e
      | some r2 =>
        rw [q2] at e; cases e
        rw [List.length_cons, List.length_cons, rN_len q2]
theorem OpsAt.len {K : PySem.W.Frag} {F : AS} {H : Hp} {σ : St} : ∀ {xs : List V} {ps : List (Sum Nat Val)} {R : AS}, OpsAt K F H σ xs ps R → xs.length = ps.length
  | _, _, _, .nil _ => rfl
  | _, _, _, .cons _ t _ _ => by rw [List.length_cons, List.length_cons, OpsAt.len t]
theorem io_run {σ : St} {H : Hp} {Q : VK} {n i : Nat} (h : rdE X.K J σ0 (callIO f i os) σ H Q) (hn : os.length + 1 = n) : tCallG (spD X.K [0] n f) (tCons (tVar i) (tOs X.K J σ0 os)) σ H Q := by
  obtain ⟨F, env, O, s, h⟩ := h
  unfold callIO at h
  by_cases hh : has env i = true
  case neg => rw [if_neg hh] at h; exact h.elim
  rw [if_pos hh] at h
  cases q : rN os env with
  | none => rw [q] at h; exact h.elim
  | some p =>
    obtain ⟨ps, env1⟩ := p
    rw [q] at h
    dsimp only [Option.bind] at h
    cases qu : at_ env1 i with
    | none => rw [qu] at h; exact h.elim
    | some u =>
      rw [qu] at h
      dsimp only at h
      by_cases hnm : i ∈ nmsOf ps
      · rw [if_pos hnm] at h; exact h.elim
      rw [if_neg hnm] at h
      cases q2 : valsOf env1 ps with
      | none => rw [q2] at h; exact h.elim
      | some as =>
        rw [q2] at h
        dsimp only at h
        cases q3 : f (u :: as) with
        | none => rw [q3] at h; exact h.elim
        | some rf =>
          obtain ⟨r, fin⟩ := rf
          rw [q3] at h
          dsimp only [Option.map_some] at h
          -- the value of the name is known at once
          have key : ∀ x0, σ[i]? = some (some x0) → tOs X.K J σ0 os σ H fun xs H1 => spD X.K [0] n f (x0 :: xs) H1 Q E0 := by
            intro x0 hx0
            refine tOs_run s q fun xs F1 H1 O1 R1 st1 s1 w1 d1 => ?_
            obtain ⟨y, ey, wu⟩ := s1.slot i u (at_some qu)
            rw [hx0] at ey; cases ey
            obtain ⟨Oc, sc, hc⟩ := args_sta s1 w1 d1 q2 (is := nmsOf ps) fun _ z => z
            have nB : ∀ a, O1 i a → ¬ Bor O1 (nmsOf ps) a := fun a z ⟨j, hj, zj⟩ => hnm (by rw [s1.disj i j a z zj]; exact hj)
            have wu' : Ow X.K (fun a => F1 a ∨ Bor O1 (nmsOf ps) a) H1 u.n x0 u.d (O1 i) := wu.mono (fun _ f => .inl f) (fun _ _ _ e => e) (fun _ _ _ e => e) fun a z f => f.elim (wu.alloc a z).2 (nB a z)
            refine ⟨by rw [List.length_cons, w1.len, rN_len q, hn], _, u :: as, fun k => match k with | 0 => O1 i | k + 1 => Oc k, ⟨fun j v ej => ?_, fun j a o => ?_, fun j k a o1 o2 => ?_, sc.al, (fun _ z => nomatch z), by simpa using sc.len⟩, r, fin, q3, fun x F' H' R O' σ' st s' w dj => ?_⟩
            · cases j with
              | zero => simp at ej; subst ej; exact ⟨x0, rfl, wu'⟩
              | succ j =>
                obtain ⟨y, ey, w⟩ := sc.slot j v (by simpa using ej)
                exact ⟨y, by simpa using ey, w⟩
            · cases j with
              | zero => exact ⟨u, rfl⟩
              | succ j =>
                obtain ⟨u, eu⟩ := sc.emp j a o
                exact ⟨u, by simpa using eu⟩
            · cases j with
              | zero =>
                cases k with
                | zero => rfl
                | succ k => exact (d1 a ⟨i, o1⟩ ((hc a).mp ⟨k, o2⟩)).elim
              | succ j =>
                cases k with
                | zero => exact (d1 a ⟨i, o2⟩ ((hc a).mp ⟨j, o1⟩)).elim
                | succ k => exact congrArg (· + 1) (sc.disj j k a o1 o2)
            · have tc : ∀ a, Tot (fun k => match k with | 0 => O1 i | k + 1 => Oc k) a → O1 i a ∨ R1 a := fun a ⟨k, z⟩ => by
                cases k with
                | zero => exact .inl z
                | succ k => exact .inr ((hc a).mp ⟨k, z⟩)
              have B1 : ∀ a, Bor O1 (nmsOf ps) a → Tot O1 a := fun a ⟨j, _, z⟩ => ⟨j, z⟩
              have keep : ∀ a o, H1 a = some o → ¬ O1 i a → ¬ R1 a → H' a = some o := fun a o e n1 n2 => st.keep a o e fun z => (tc a z).elim n1 n2
              have nR1F : ∀ a, R1 a → ¬ F1 a := fun a z => (w1.alloc a z).2
              have grow : ∀ a, F' a → F1 a ∨ Bor O1 (nmsOf ps) a ∨ O1 i a ∨ R1 a ∨ H1 a = none := fun a z => by
                rcases st.grow a z with (z | z) | z | z
                · exact .inl z
                · exact .inr (.inl z)
                · exact .inr (.inr ((tc a z).elim .inl fun z => .inr (.inl z)))
                · exact .inr (.inr (.inr (.inr z)))
              have up : ∀ a, O1 i a ∨ R1 a → Tot O a ∨ H a = none := fun a z => z.elim (fun z => st1.own a (.inl ⟨i, z⟩)) fun z => st1.own a (.inr z)
              have grow0 : ∀ a, F' a → F a ∨ Tot O a ∨ H a = none := fun a z => by
                rcases grow a z with z | z | z | z | z
                · exact st1.grow a z
                · exact .inr (st1.own a (.inl (B1 a z)))
                · exact .inr (up a (.inl z))
                · exact .inr (up a (.inr z))
                · exact .inr (.inr (none_of_there st1.there z))
              have keep0 : ∀ a o, H a = some o → ¬ Tot O a → H' a = some o := fun a o e n => by
                have no : ¬ (O1 i a ∨ R1 a) := fun z => by
                  rcases up a z with y | y
                  · exact n y
                  · rw [e] at y; cases y
                exact keep a o (st1.keep a o e n) (fun z => no (.inl z)) fun z => no (.inr z)
              have ownX : ∀ a, Tot O' a ∨ R a → Tot O a ∨ H a = none := fun a z => by
                rcases st.own a z with z | z
                · exact up a (tc a z)
                · exact .inr (none_of_there st1.there z)
              have dead : ∀ j a, j ≠ i → O1 j a → (Tot O' a ∨ R a) → False := fun j a hj z y => by
                rcases st.own a y with y | y
                · rcases tc a y with y | y
                  · exact hj (s1.disj j i a z y)
                  · exact d1 a ⟨j, z⟩ y
                · obtain ⟨⟨o, e⟩, _⟩ := s1.own ⟨j, z⟩
                  rw [e] at y; cases y
              have hi : i < env1.length := (List.getElem?_eq_some_iff.mp (at_some qu)).1
              have fin0 : ∀ v, at_ fin 0 = some v → Ow X.K F' H' v.n x0 v.d (O' 0) := fun v e => by
                obtain ⟨y, ey, wy⟩ := s'.slot 0 v (at_some e)
                have hp := s'.pin 0 (List.mem_singleton.mpr rfl)
                rw [ey] at hp
                have : some (some y) = some (some x0) := hp
                cases this
                exact wy
              refine h x F' H' (fun j a => (j = i ∧ O' 0 a ∧ ∃ v, at_ fin 0 = some v) ∨ (j ≠ i ∧ j ∉ nmsOf ps ∧ O1 j a)) R ⟨fun a f => st.mono a (.inl (st1.mono a f)), grow0, fun a z => ?_, keep0, fun a o e => ?_⟩ ⟨fun j v e => ?_, fun j a z => ?_, fun j k a z1 z2 => ?_, s'.al, s1.pin, by rw [List.length_set, frzAll_len]; exact s1.len⟩ w fun a ⟨j, z⟩ rz => ?_
              · rcases z with ⟨j, z⟩ | z
                · rcases z with z | z
                  · exact ownX a (.inl ⟨0, z.2.1⟩)
                  · exact st1.own a (.inl ⟨j, z.2.2⟩)
                · exact ownX a (.inr z)
              · obtain ⟨o1, e1⟩ := st1.there a o e
                exact st.there a o1 e1
              · by_cases hj : j = i
                · subst hj
                  rw [List.getElem?_set_self (by rw [frzAll_len]; exact hi)] at e
                  have e' : at_ fin 0 = some v := Option.some.inj e
                  refine ⟨x0, hx0, ?_⟩
                  have eO : (fun a => (j = j ∧ O' 0 a ∧ ∃ v, at_ fin 0 = some v) ∨ (j ≠ j ∧ j ∉ nmsOf ps ∧ O1 j a)) = O' 0 := by
                    funext a
                    exact propext ⟨fun z => z.elim (fun z => z.2.1) fun z => (z.1 rfl).elim, fun z => .inl ⟨rfl, z, v, e'⟩⟩
                  rw [eO]
                  exact fin0 v e'
                · rw [List.getElem?_set_ne (Ne.symm hj)] at e
                  rcases frzAll_at e with ⟨h1, h2, u', h3, h4⟩ | ⟨h1, h2⟩
                  · obtain ⟨y, ey, wy⟩ := s1.slot j u' h3
                    refine ⟨y, ey, .fz ?_ (.inl h2) fun a z => z.elim (fun z => hj z.1) fun z => z.2.1 h1⟩
                    rw [← h4]
                    refine (wy.freeze (F' := fun a => F1 a ∨ Bor O1 (nmsOf ps) a) (fun _ f => .inl f) fun a o => .inr ⟨j, h1, o⟩).mono st.mono fun a o f e => keep a o e (fun z => ?_) fun z => ?_
                    · rcases f with f | f
                      · exact (wu.alloc a z).2 f
                      · exact nB a z f
                    · rcases f with f | f
                      · exact nR1F a z f
                      · exact d1 a (B1 a f) z
                  · obtain ⟨y, ey, wy⟩ := s1.slot j v h2
                    refine ⟨y, ey, ?_⟩
                    have eO : (fun a => (j = i ∧ O' 0 a ∧ ∃ v, at_ fin 0 = some v) ∨ (j ≠ i ∧ j ∉ nmsOf ps ∧ O1 j a)) = O1 j := by
                      funext a
                      exact propext ⟨fun z => z.elim (fun z => (hj z.1).elim) fun z => z.2.2, fun z => .inr ⟨hj, h1, z⟩⟩
                    rw [eO]
                    refine wy.mono (fun a f => st.mono a (.inl f)) (fun a o f e => keep a o e (fun z => (wu.alloc a z).2 f) fun z => nR1F a z f) (fun a o z e => keep a o e (fun y => hj (s1.disj j i a z y)) fun y => d1 a ⟨j, z⟩ y) fun a z f => ?_
                    obtain ⟨⟨o, eo⟩, nf⟩ := s1.own ⟨j, z⟩
                    rcases grow a f with y | ⟨k, hk, y⟩ | y | y | y
                    · exact nf y
                    · exact h1 (by rw [s1.disj j k a z y]; exact hk)
                    · exact hj (s1.disj j i a z y)
                    · exact d1 a ⟨j, z⟩ y
                    · rw [eo] at y; cases y
              · rcases z with ⟨rfl, z, v, e'⟩ | ⟨hj, h1, z⟩
                · exact ⟨v, by rw [List.getElem?_set_self (by rw [frzAll_len]; exact hi), e']⟩
                · obtain ⟨v, e⟩ := s1.emp j a z
                  obtain ⟨v', e'⟩ := frzAll_some (is := nmsOf ps) e
                  exact ⟨v', by rw [List.getElem?_set_ne (Ne.symm hj)]; exact e'⟩
              · rcases z1 with ⟨rfl, z1, _⟩ | ⟨hj, _, z1⟩
                · rcases z2 with ⟨rfl, _, _⟩ | ⟨hk, _, z2⟩
                  · rfl
                  · exact (dead k a hk z2 (.inl ⟨0, z1⟩)).elim
                · rcases z2 with ⟨rfl, z2, _⟩ | ⟨hk, _, z2⟩
                  · exact (dead j a hj z1 (.inl ⟨0, z2⟩)).elim
                  · exact s1.disj j k a z1 z2
              · rcases z with ⟨rfl, z, _⟩ | ⟨hj, _, z⟩
                · exact dj a ⟨0, z⟩ rz
                · exact dead j a hj z (.inr rz)
          unfold has at hh
          split at hh
          · rename_i v0 ev0
            obtain ⟨x0, ex0, _⟩ := s.slot i _ ev0
            exact ⟨x0, ex0, key x0 ex0⟩
          · cases hh
variable {o e x : Expr} {fe g : RE} {apos cpos : Pos} {es : List Expr} {k : Nat} {fd : FuncData} {ps : List Str} {ff : Addr} {nm : Str} {p : Pos} {n : Nat} {oa ob : Opd} {a b : Expr}
/-- f(e, ..) -/
theorem e_call (F : FnG X.prog X.w X.K X.mg X.base k ff fd ps (spD X.K [] n f)) (hr : RoomG k X.A) (hg : Gl X nm) (hm : X.mg nm = some (.ref ff)) (hk : PySem.W.keepIn X.K (.ref ff) = true) (hb : Binds X.K fd ps []) (ha : PA X (e :: es) (tOs X.K J σ0 os)) (hn : os.length = n := by rfl)
    (hdb : (nm == ("__debug__" : Str)) = false := by decide) (he : starEach (e :: es) X.env = (false, eval e X.env) :: starEach es X.env := by rfl) (hpl : (backTo pos (starEach es X.env)).any (·.1) = false := by rfl) :
    PE X (.Call (.Name nm p) (e :: es) [] pos) (rdE X.K J σ0 (callE f os)) := (pe_callG F hr hg hm hk hb ha hdb he hpl).conseq fun σ H Q h => call_run h hn
theorem e_call0 (F : FnG X.prog X.w X.K X.mg X.base k ff fd ps (spD X.K [] 0 f)) (hr : RoomG k X.A) (hg : Gl X nm) (hm : X.mg nm = some (.ref ff)) (hk : PySem.W.keepIn X.K (.ref ff) = true) (hb : Binds X.K fd ps [])
    (hdb : (nm == ("__debug__" : Str)) = false := by decide) : PE X (.Call (.Name nm p) [] [] pos) (rdE X.K J σ0 (callE f [])) := (pe_callG0 F hr hg hm hk hb hdb).conseq fun σ H Q h => call_run (os := []) h rfl
theorem e_io {i : Nat} (F : FnG X.prog X.w X.K X.mg X.base k ff fd ps (spD X.K [0] n f)) (hr : RoomG k X.A) (hg : Gl X nm) (hm : X.mg nm = some (.ref ff)) (hk : PySem.W.keepIn X.K (.ref ff) = true) (hb : Binds X.K fd ps []) (h0 : PE X e (tVar i)) (ha : PA X es (tOs X.K J σ0 os)) (hn : os.length + 1 = n := by rfl)
    (hdb : (nm == ("__debug__" : Str)) = false := by decide) (he : starEach (e :: es) X.env = (false, eval e X.env) :: starEach es X.env := by rfl) (hpl : (backTo pos (starEach es X.env)).any (·.1) = false := by rfl) :
    PE X (.Call (.Name nm p) (e :: es) [] pos) (rdE X.K J σ0 (callIO f i os)) := (pe_callG F hr hg hm hk hb (pa_cons h0 ha he) hdb he hpl).conseq fun σ H Q h => io_run h hn
/-! ### lists changed in place -/
/-- the slot's owned object gives way to another -/
theorem Sta.change {K : PySem.W.Frag} {J : List Nat} {σ0 : St} {F : AS} {H : Hp} {env : Ev} {σ : St} {O : Nat → AS} (s : Sta K J σ0 F H env σ O) {i : Nat} {a : Addr} {u : HO} {v : Val} {x : V} (hi : i < env.length) (hx : σ[i]? = some (some x)) (ha : O i a) (w : Ow K F (upd H a u) v.n x v.d (O i)) : Sta K J σ0 F (upd H a u) (env.set i (some v)) σ O := by
  have nf : ¬ F a := (s.own ⟨i, ha⟩).2
  refine ⟨fun j y e => ?_, fun j b o => ?_, s.disj, fun b f => ?_, s.pin, by rw [List.length_set]; exact s.len⟩
  · by_cases hj : j = i
    · subst hj
      rw [List.getElem?_set_self hi] at e
      cases e
      exact ⟨x, hx, w⟩
    · rw [List.getElem?_set_ne (Ne.symm hj)] at e
      obtain ⟨z, ez, wz⟩ := s.slot j y e
      exact ⟨z, ez, wz.mono (fun _ f => f) (fun b o f e => by rw [upd_ne (fun z => nf (by rw [← z]; exact f))]; exact e) (fun b o z e => by rw [upd_ne (fun y => hj (s.disj j i a (by rw [← y]; exact z) ha))]; exact e) fun b z => (wz.alloc b z).2⟩
  · by_cases hj : j = i
    · subst hj
      exact ⟨v, List.getElem?_set_self hi⟩
    · obtain ⟨y, e⟩ := s.emp j b o
      exact ⟨y, by rw [List.getElem?_set_ne (Ne.symm hj)]; exact e⟩
  · by_cases hb : b = a
    · subst hb
      exact ⟨u, upd_same⟩
    · obtain ⟨o, e⟩ := s.al b f
      exact ⟨o, by rw [upd_ne hb]; exact e⟩
theorem Stp.change {F : AS} {H : Hp} {O : Nat → AS} {i : Nat} {a : Addr} {u : HO} {o : HO} (ha : O i a) (e : H a = some o) : Stp F H (Tot O) F (upd H a u) (Tot O) :=
  ⟨fun _ z => z, fun _ z => .inl z, fun _ z => .inl z, fun b o e n => by rw [upd_ne (fun z => n ⟨i, by rw [z]; exact ha⟩)]; exact e, fun b o' e' => by
    by_cases hb : b = a
    · subst hb; exact ⟨u, upd_same⟩
    · exact ⟨o', by rw [upd_ne hb]; exact e'⟩⟩
/-- a name's own list -/
def ownL (env : Ev) (i : Nat) : Option (List D) := match at_ env i with
  | some ⟨.list ds, 1⟩ => some ds
  | _ => none
theorem ownL_at {K : PySem.W.Frag} {J : List Nat} {σ0 : St} {F : AS} {H : Hp} {env : Ev} {σ : St} {O : Nat → AS} (s : Sta K J σ0 F H env σ O) {i : Nat} {ds : List D} (e : ownL env i = some ds) :
    ∃ a xs, σ[i]? = some (some (.ref a)) ∧ H a = some (.lst xs) ∧ ¬ F a ∧ FzL K F H xs ds ∧ (∀ b, O i b ↔ b = a) ∧ i < env.length := by
  unfold ownL at e
  split at e
  · rename_i ds' q
    cases e
    have q' := at_some q
    obtain ⟨x, ex, w⟩ := s.slot i _ q'
    have w' : Ow K F H 1 x (.list ds) (O i) := w
    cases w' with
    | fz _ c _ => rcases c with c | c <;> cases c
    | lst h nf t no io =>
      obtain ⟨t', em⟩ := OwL.fz0 rfl t
      exact ⟨_, _, ex, h, nf, t', fun b => (io b).trans ⟨fun z => z.elim id fun z => (em b z).elim, .inl⟩, (List.getElem?_eq_some_iff.mp q').1⟩
  · cases e
theorem own1 {K : PySem.W.Frag} {F : AS} {H : Hp} {a : Addr} {xs : List V} {ds : List D} {R : AS} (h : H a = some (.lst xs)) (nf : ¬ F a) (t : FzL K F H xs ds) (hR : ∀ b, R b ↔ b = a) : Ow K F H 1 (.ref a) (.list ds) R :=
  .lst (n := 0) h nf t.owL (fun z => z) fun b => (hR b).trans ⟨.inl, fun z => z.elim id False.elim⟩
/-- x.append(e) -/
def appE (i : Nat) (f : RE) : RE := fun env => if has env i = true then (match at_ env i with
  | some ⟨.list _, _⟩ => (f env).bind fun p => if p.1.n = 0 then (ownL p.2 i).bind fun ds => if ds.length < sizeLine then some (fz .none, p.2.set i (some ⟨.list (ds ++ [p.1.d]), 1⟩)) else none else none
  | _ => none) else none
theorem list_slot {K : PySem.W.Frag} {J : List Nat} {σ0 : St} {F : AS} {H : Hp} {env : Ev} {σ : St} {O : Nat → AS} (s : Sta K J σ0 F H env σ O) {i n : Nat} {ds : List D} (q : at_ env i = some ⟨.list ds, n⟩) : ∃ a xs, σ[i]? = some (some (.ref a)) ∧ H a = some (.lst xs) := by
  obtain ⟨x, ex, w⟩ := s.slot i _ (at_some q)
  have w' : Ow K F H n x (.list ds) (O i) := w
  cases w' with
  | fz h _ _ => cases h with | lst h t => exact ⟨_, _, ex, h.2⟩
  | lst h _ _ _ _ => exact ⟨_, _, ex, h⟩
theorem e_append {i : Nat} (ho : PE X o (tVar i)) (he : PE X e (rdE X.K J σ0 fe)) (hbase : attributeBase o "append" X.env (eval o X.env) = eval o X.env := by rfl)
    (hfew : ((backTo cpos (starEach [e] X.env)).all (fun x => !x.1) && (backToKw cpos (keywordEach [] X.env)).all (fun x => x.1.isSome) && decide ([e].length + ([] : List Keyword).length + (if ([] : List Keyword).isEmpty then 0 else 1) < 30)) = true := by rfl)
    (hline : (apos.endLine == cpos.line) = true := by rfl) (hs : starEach [e] X.env = (false, eval e X.env) :: starEach [] X.env := by rfl) (hplain : (backTo cpos (starEach [] X.env)).any (·.1) = false := by rfl) :
    PE X (.Call (.Attribute o "append" apos) [e] [] cpos) (rdE X.K J σ0 (appE i fe)) :=
  (pe_bm PySem.F.plainAttrs_list PySem.F.slot_list_append PySem.F.type_list_append mt_append ho (pa_cons he pa_nil hs) hbase hfew hline hs hplain).conseq fun σ H Q ⟨F, env, O, s, h⟩ => by
    unfold appE at h
    by_cases hh : has env i = true
    case neg => rw [if_neg hh] at h; exact h.elim
    rw [if_pos hh] at h
    split at h
    · rename_i ds0 n0 q0
      obtain ⟨a0, xs0, ex0, eh0⟩ := list_slot s q0
      refine ⟨_, ex0, .inl ⟨rfl, _, .inl (.inl eh0)⟩, F, env, O, s, ?_⟩
      cases q : fe env with
      | none => rw [q] at h; exact h
      | some p =>
        obtain ⟨⟨d, n⟩, env1⟩ := p
        rw [q] at h
        dsimp only [Option.bind] at h
        split at h
        case isFalse => exact h.elim
        rename_i hn
        subst hn
        cases q2 : ownL env1 i with
        | none => rw [q2] at h; exact h.elim
        | some ds =>
          rw [q2] at h
          dsimp only at h
          split at h
          case isFalse => exact h.elim
          rename_i hl
          intro x F1 H1 O1 R1 st1 s1 w1 d1
          have wx : Fz X.K F1 H1 x d := by cases w1 with | fz h _ _ => exact h
          obtain ⟨a, xs, ex, eh, nf, t, io, hi⟩ := ownL_at s1 q2
          rw [ex0] at ex; cases ex
          have ha : O1 i a0 := (io a0).mpr rfl
          refine ⟨a0, xs, x, rfl, rfl, eh, by rw [t.length]; exact hl, ?_⟩
          have upF : ∀ b o, F1 b → H1 b = some o → upd H1 a0 (.lst (xs ++ [x])) b = some o := fun b o f e => by rw [upd_ne (fun z => nf (by rw [← z]; exact f))]; exact e
          have s2 := s1.change (u := .lst (xs ++ [x])) (v := ⟨.list (ds ++ [d]), 1⟩) hi ex0 ha (own1 upd_same nf ((t.mono (fun _ f => f) upF).append (.cons (wx.mono (fun _ f => f) upF) .nil)) io)
          exact h .non F1 _ O1 (fun _ => False) (Stp.trans (L1 := fun a => Tot O1 a ∨ R1 a) st1 (Stp.less (L1 := Tot O1) (Stp.change (F := F1) ha eh) fun a z => z.elim id False.elim) fun _ z => .inl z) s2 (.of_fz .non) fun _ _ z => z
    · exact h.elim
/-- x[j] = e -/
def setS (i : Nat) (f : RE) (g : RE) : RS := fun env => (f env).bind fun p => if p.1.n = 0 then (if has p.2 i = true then (g p.2).bind fun q => match q.1.d with
  | .int j => (ownL q.2 i).bind fun ds => (ixN ds.length j).map fun k => (.nx, q.2.set i (some ⟨.list (ds.set k p.1.d), 1⟩))
  | _ => none else none) else none
theorem s_set {i : Nat} {pos' : Pos} (he : PE X e (rdE X.K J σ0 fe)) (ho : PE X o (tVar i)) (hj : PE X x (rdE X.K J σ0 g)) (hs : swapsWithSole [.Subscript o x pos'] e pos.line X.env = pure false := by rfl) (hw : swappedStores [.Subscript o x pos'] e X.env = pure none := by rfl)
    (h1 : (assignEach [.Subscript o x pos'] X.env).map (·.2) = [assign (.Subscript o x pos') X.env] := by rfl)
    (h2 : ∀ u, assign (.Subscript o x pos') X.env u = (do let ov ← holding [u] (eval o X.env); let iv ← holding [u, ov] (eval x X.env); standAt pos'; holding [u, ov, iv] (setItem ov iv u); release [u, ov, iv] []) := by intro _; rfl) : PS X (.Assign [.Subscript o x pos'] e pos) (rdS X.K J σ0 (setS i fe g)) :=
  (ps_asg he (pg_sub ho hj set_list h2) hs hw h1).conseq fun Dn σ H ⟨F, env, O, s, h⟩ => by
    refine ⟨F, env, O, s, ?_⟩
    unfold setS at h
    cases q : fe env with
    | none => rw [q] at h; exact h
    | some p =>
      obtain ⟨⟨d, n⟩, env1⟩ := p
      rw [q] at h
      dsimp only [Option.bind] at h
      split at h
      case isFalse => exact h.elim
      rename_i hn
      subst hn
      split at h
      case isFalse => exact h.elim
      rename_i hh
      intro v F1 H1 O1 R1 st1 s1 w1 d1
      have wv : Fz X.K F1 H1 v d := by cases w1 with | fz h _ _ => exact h
      have hx : ∃ x0, σ[i]? = some (some x0) := by
        unfold has at hh
        split at hh
        · rename_i v0 ev0
          obtain ⟨x0, e0, _⟩ := s1.slot i _ ev0
          exact ⟨x0, e0⟩
        · cases hh
      obtain ⟨x0, ex0⟩ := hx
      refine ⟨x0, ex0, F1, env1, O1, s1, ?_⟩
      have h2 := PostS.after (L1' := Tot O1) h st1 fun _ z => .inl z
      clear h
      cases q2 : g env1 with
      | none => rw [q2] at h2; exact h2
      | some p2 =>
        obtain ⟨⟨dj, nj⟩, env2⟩ := p2
        rw [q2] at h2
        dsimp only at h2
        have hint : ∃ j, dj = .int j := by
          cases dj with
          | int j => exact ⟨j, rfl⟩
          | _ => exact h2.elim
        obtain ⟨j, hdj⟩ := hint
        subst hdj
        dsimp only at h2
        cases q3 : ownL env2 i with
        | none => rw [q3] at h2; exact h2.elim
        | some ds =>
          rw [q3] at h2
          dsimp only at h2
          cases q4 : ixN ds.length j with
          | none => rw [q4] at h2; exact h2.elim
          | some kk =>
            rw [q4] at h2
            intro y F2 H2 O2 R2 st2 s2 w2 d2
            have wy : y = .int j := by
              cases w2 with | fz h _ _ => cases h; rfl
            obtain ⟨a, xs, ex, eh, nf, t, io, hi⟩ := ownL_at s2 q3
            rw [ex0] at ex; cases ex
            have ha : O2 i a := (io a).mpr rfl
            have wv2 : Fz X.K F2 H2 v d := wv.frame st2 fun a z => (s1.own z).2
            refine ⟨a, xs, j, kk, rfl, wy, eh, by rw [t.length]; exact q4, ?_⟩
            have upF : ∀ b o, F2 b → H2 b = some o → upd H2 a (.lst (xs.set kk v)) b = some o := fun b o f e => by rw [upd_ne (fun z => nf (by rw [← z]; exact f))]; exact e
            have s3 := s2.change (u := .lst (xs.set kk v)) (v := ⟨.list (ds.set kk d), 1⟩) hi ex0 ha (own1 upd_same nf (FzL.set kk (t.mono (fun _ f => f) upF) (wv2.mono (fun _ f => f) upF)) io)
            exact h2 σ F2 _ O2 ((st2.less fun a z => .inl z).trans (Stp.change (F := F2) ha eh) fun _ z => z) s3
/-! ### a, b = x, y -/
def parS (i j : Nat) (os : List Opd) : RS := fun env => (rN os env).bind fun p => (rsF p.1).bind fun ds => match ds with
  | [d, e] => some (.nx, (p.2.set i (some (fz d))).set j (some (fz e)))
  | _ => none
theorem s_par {i j : Nat} {y z : Str} {px py pt : Pos} {kt k2 : Nat} {pt2 : Pos} (hc : X.calm = true) (hN : X.N.Nodup) (hi : X.N[i]? = some y) (hj : X.N[j]? = some z) (hij : i ≠ j) (hJi : i ∉ J) (hJj : j ∉ J)
    (hy : X.env.scope.names.lookup y = some .local) (hz : X.env.scope.names.lookup z = some .local) (ha : PA X [a, b] (tOs X.K J σ0 os)) (hw : swappedStores [.Tuple [.Name y px, .Name z py] kt pt] (.Tuple [a, b] k2 pt2) X.env = pure (some [y, z]))
    (hs : swapsWithSole [.Tuple [.Name y px, .Name z py] kt pt] (.Tuple [a, b] k2 pt2) pos.line X.env = pure false := by rfl) : PS X (.Assign [.Tuple [.Name y px, .Name z py] kt pt] (.Tuple [a, b] k2 pt2) pos) (rdS X.K J σ0 (parS i j os)) :=
  (ps_par hc hN hi hj hij hy hz ha hw hs).conseq fun Dn σ H ⟨F, env, O, s, h⟩ => by
    unfold parS at h
    cases q : rN os env with
    | none => rw [q] at h; exact h.elim
    | some p =>
      obtain ⟨ps, env1⟩ := p
      rw [q] at h
      dsimp only [Option.bind] at h
      cases q2 : rsF ps with
      | none => rw [q2] at h; exact h.elim
      | some ds =>
        rw [q2] at h
        dsimp only at h
        split at h
        case h_2 => exact h.elim
        rename_i d e
        refine tOs_run s q fun xs F1 H1 O1 R1 st1 s1 w1 d1 => ?_
        have wz := rsF_fz w1 q2
        cases wz with
        | cons wx wz =>
          cases wz with
          | cons wy wz =>
            cases wz
            have s2 := s1.store (v := fz d) hJi (.of_fz wx) fun _ _ z => z
            have s3 := s2.store (v := fz e) hJj (.of_fz wy) fun _ _ z => z
            refine ⟨_, _, rfl, h _ F1 H1 _ (st1.less fun a z => ?_) s3⟩
            rcases Tot.store a z with z | z
            · rcases Tot.store a z with z | z
              · exact .inl z
              · exact z.elim
            · exact z.elim
end
end Dn
end
section
set_option Elab.async false
set_option linter.all false
set_option maxRecDepth 100000
set_option maxHeartbeats 4000000
namespace Dn
open PySem L2
/-! ### a tuple times one -/
theorem mul_one_tree (l : Addr) (items : Array Value) (n : Nat) (dd : Option Addr) (sl : Array (Option Value)) (x : Int) (u : Tok) (c0 : (decide (x < -(2 ^ 63)) || decide (x ≥ 2 ^ 63)) = false) (c1 : (items.isEmpty || x == 1) = true) :
    Meets (Builtin.«tuple.__mul__» ⟨[.ref l, .int x u], []⟩) (fun _ R s => s.heap.get? l = some { cls := .type "tuple", dict := dd, data := .seq items n, slots := sl } ∧ R (.ok (.ret (Value.ref l))) s) :=
  .of_wp fun prog w A R s h => by
    obtain ⟨hp, g, d, tk, os⟩ := s
    obtain ⟨hl, h⟩ := h
    have f1 := AutoSeq1.idx_int
    wp_walk using wpAny_loadPart' hl
    repeat (first
      | (refine wpAny_ite_false (decide_eq_false (by rw [c0]; exact Bool.false_ne_true)) ?_; wp_walk using wpAny_loadPart' hl)
      | (refine wpAny_ite_true (decide_eq_true c1) ?_; wp_walk using wpAny_loadPart' hl))
    exact ⟨_, rfl, h⟩
def rRepT1 (K : PySem.W.Frag) : R2 := fun x y H Q => ∃ l xs, x = .ref l ∧ y = .int 1 ∧ SqT K H l xs ∧ Q (.ref l) H
theorem op_repT1 {X : Cx} : OpR X (binaryOp .Mult) (rRepT1 X.K) := by
  intro pins s σ H x y v u Q I rx ry h
  obtain ⟨l, xs, rfl, rfl, hT, q⟩ := h
  cases rx
  obtain ⟨t, rfl⟩ := ry
  obtain ⟨its, r, ⟨⟨cls, dd, data, sl⟩, ho, hc, n, hd⟩, hs⟩ := I.tuple hT
  simp only at hc hd
  subst hc hd
  have c1 : (its.toArray.isEmpty || (1 : Int) == 1) = true := by rw [show ((1 : Int) == 1) = true from rfl, Bool.or_true]
  refine wpAny_binaryOp_repeat_ref (T := "tuple") (U := "int") (by decide) ⟨_, ho, rfl⟩ (fun s' => typeIs_int s' 1 t) noFill_tuple_mul F.fills_int_mul F.slot_int_rmul repeat_tuple F.slot_int_index.lookup
    (call_meets F.slot_int_rmul (typeIs_int s 1 t) F.entry_int_rmul (F.args_int_rmul_2 _ _) (int_rmul_tuple 1 t l its.toArray n dd sl) ⟨ho, rfl, ⟨_, ho, rfl⟩, ?_⟩)
  exact call_meets F.slot_tuple_mul ⟨_, ho, rfl⟩ F.entry_tuple_mul (F.args_tuple_mul_2 _ _) (mul_one_tree l its.toArray n dd sl 1 t rfl c1) ⟨ho, .ref l, H, I, rfl, q⟩
section
variable {X : Cx} {J : List Nat} {σ0 : St} {pos p : Pos}
/-- a tuple times an int from 1 on -/
def mulTO : List D → Option Val
  | [.tuple a, .int k] => if k = 1 then some (fz (.tuple a)) else mulO [.tuple a, .int k]
  | [d, e] => mulO [d, e]
  | _ => none
theorem sem_mulT : SemN X (r2 fun x y H Q => rMulU X.K x y H Q ∨ rRepT1 X.K x y H Q) mulTO := by
  intro F H xs ds res Q al hv e h
  unfold mulTO at e
  split at e
  · split at e
    · rename_i hk
      subst hk
      cases e
      obtain ⟨x, y, rfl, h1, h2⟩ := hv.two
      obtain ⟨a, us, rfl, e1, t1, f1⟩ := h1.tup
      cases h2.int
      exact .inr ⟨_, _, rfl, rfl, e1, h.old f1 (.inl rfl)⟩
    · obtain ⟨x, y, rfl, h1, h2⟩ := hv.two
      exact .inl (sem_mul F H _ _ res Q al hv e h)
  · obtain ⟨x, y, rfl, h1, h2⟩ := hv.two
    exact .inl (sem_mul F H _ _ res Q al hv e h)
  · cases e
theorem op_mulT : OpR X (binaryOp .Mult) (fun x y H Q => rMulU X.K x y H Q ∨ rRepT1 X.K x y H Q) := op_mulU.or op_repT1
/-! ### tuple(range(..)), list(range(..)) -/
def tupRg1 : List D → Option Val
  | [.int n] => if irB 4611686018427387904 16777216 n = true then some (fz (.tuple (rngL 0 n.toNat))) else none
  | _ => none
def lstRg1 : List D → Option Val
  | [.int n] => if irB 4611686018427387904 16777216 n = true then some ⟨.list (rngL 0 n.toNat), 1⟩ else none
  | _ => none
theorem fzL_rg {K : PySem.W.Frag} {F : AS} {H : Hp} (a b : Int) : FzL K F H (rgV a b) (rngL a (b - a).toNat) := by
  unfold rgV rngL
  generalize List.range (b - a).toNat = l
  induction l with
  | nil => exact .nil
  | cons i r ih => exact .cons (.int _) ih
variable {a b e : Expr} {oa ob : Opd}
theorem e_tupRg1 {q : Pos} (hc : X.calm = true) (hg : Gl X "tuple") (hm : X.mg "tuple" = none) (hg2 : Gl X "range") (hm2 : X.mg "range" = none) (ha : PE X a (tO X.K J σ0 oa)) (na : starEach [a] X.env = (false, eval a X.env) :: starEach [] X.env := by rfl) {q2 q3 : Pos}
    (nb : starEach [.Call (.Name "range" p) [a] [] q] X.env = (false, eval (.Call (.Name "range" p) [a] [] q) X.env) :: starEach [] X.env := by rfl) : PE X (.Call (.Name "tuple" q2) [.Call (.Name "range" p) [a] [] q] [] q3) (rdE X.K J σ0 (opN tupRg1 [oa])) :=
  (pe_tupRg hc hg hm (prg_1 hg2 hm2 ha na) nb).conseq fun σ H Q h => by
    refine (op_run (r := fun xs H1 Q => match xs with | [x] => ∃ n, x = .int n ∧ RgOk 0 n ∧ ∀ q, H1 q = none → Q (.ref q) (upd H1 q (.tup (rgV 0 n))) | _ => False) ?_ h : tCB _ (tOs X.K J σ0 [oa]) σ H Q)
    intro F H xs ds res Q al hv e h
    unfold tupRg1 at e
    split at e
    · split at e
      · rename_i hz
        cases e
        obtain ⟨x, rfl, h1⟩ := hv.one
        cases h1.int
        have hz := irB_iff.mp hz
        refine ⟨_, rfl, ⟨by omega, by omega, by omega, by omega, by omega⟩, h.tup ?_⟩
        have := fzL_rg (K := X.K) (F := F) (H := H) 0 (by assumption)
        rw [Int.sub_zero] at this
        exact this
      · cases e
    · cases e
theorem e_lstRg1 {q : Pos} (hc : X.calm = true) (hg : Gl X "list") (hm : X.mg "list" = none) (hg2 : Gl X "range") (hm2 : X.mg "range" = none) (ha : PE X a (tO X.K J σ0 oa)) (na : starEach [a] X.env = (false, eval a X.env) :: starEach [] X.env := by rfl) {q2 q3 : Pos}
    (nb : starEach [.Call (.Name "range" p) [a] [] q] X.env = (false, eval (.Call (.Name "range" p) [a] [] q) X.env) :: starEach [] X.env := by rfl) : PE X (.Call (.Name "list" q2) [.Call (.Name "range" p) [a] [] q] [] q3) (rdE X.K J σ0 (opN lstRg1 [oa])) :=
  (pe_listRg hc hg hm (prg_1 hg2 hm2 ha na) nb).conseq fun σ H Q h => by
    refine (op_run (r := fun xs H1 Q => match xs with | [x] => ∃ n, x = .int n ∧ RgOk 0 n ∧ ∀ q, H1 q = none → Q (.ref q) (upd H1 q (.lst (rgV 0 n))) | _ => False) ?_ h : tCB _ (tOs X.K J σ0 [oa]) σ H Q)
    intro F H xs ds res Q al hv e h
    unfold lstRg1 at e
    split at e
    · split at e
      · rename_i hz
        cases e
        obtain ⟨x, rfl, h1⟩ := hv.one
        cases h1.int
        have hz := irB_iff.mp hz
        refine ⟨_, rfl, ⟨by omega, by omega, by omega, by omega, by omega⟩, h.lst ?_ al⟩
        have := fzL_rg (K := X.K) (F := F) (H := H) 0 (by assumption)
        rw [Int.sub_zero] at this
        exact this
      · cases e
    · cases e
/-! ### repr -/
mutual
theorem nd_hasDict : ∀ d : D, nd d = true → d.hasDict = false
  | .none, _ => rfl
  | .bool _, _ => rfl
  | .int _, _ => rfl
  | .str _, _ => rfl
  | .list xs, h => by unfold nd at h; unfold PyData.hasDict; exact ndL_hasDict xs h
  | .tuple xs, h => by unfold nd at h; unfold PyData.hasDict; exact ndL_hasDict xs h
  | .dict _, h => by unfold nd at h; cases h
theorem ndL_hasDict : ∀ ds : List D, ndL ds = true → PyData.hasDictAll ds = false
  | [], _ => rfl
  | d :: ds, h => by
    unfold ndL at h
    rw [Bool.and_eq_true] at h
    unfold PyData.hasDictAll
    rw [nd_hasDict d h.1, ndL_hasDict ds h.2]; rfl
end
/-- may be shown -/
def shw (d : D) : Bool := nd d && d.showable && decide (d.depth ≤ 64) && decide (d.shown.length ≤ sizeLine)
def reprO : List D → Option Val
  | [d] => if shw d = true then some (fz (.str d.shown)) else none
  | _ => none
theorem call_reprU (hg : X.A.guards = some []) (hu : X.A.units + 66 < cLine) : CallR X (.builtin "repr") (fun xs H Q => ∃ x d, xs = [x] ∧ Dp X.K H x d ∧ shw d = true ∧ Q (.str d.shown) H) := by
  intro pins s σ H xs us Q I r h
  obtain ⟨x, d, rfl, hd, hs, q⟩ := h
  obtain ⟨u, rfl, ru⟩ := vals1 r
  unfold shw at hs
  simp only [Bool.and_eq_true, decide_eq_true_eq] at hs
  obtain ⟨⟨⟨h1, h2⟩, h3⟩, h4⟩ := hs
  obtain ⟨as, hr⟩ := Dp.reads I d x u hd ru
  have hno : d.hasDict = true → sysModules ∉ as := fun z => by rw [nd_hasDict d h1] at z; cases z
  have big : ∀ {a : Addr}, Reads s.heap (.ref a) d as → wpAny (model X.prog X.w) X.A (call (.builtin "repr") [.ref a]) (EP X pins σ Q) X.xe s := fun {a} hr =>
    PySem.repr_of_reads' hr h2 hno hg (by omega) (fun _ _ e => e) (fun h' u tk hk => ⟨.str _, H, I.kept (t' := tk) hk, ⟨_, rfl⟩, q⟩) h4
  cases hd with
  | non => cases ru; exact PySem.P.repr_of_none ⟨.str _, H, I.tok _, ⟨_, rfl⟩, q⟩
  | bl b => cases ru; exact PySem.P.repr_of_bool ⟨.str _, H, I.tok _, ⟨_, rfl⟩, q⟩
  | int i =>
    obtain ⟨t, rfl⟩ := ru
    exact PySem.P.repr_of_int (by unfold PyData.showable at h2; exact of_decide_eq_true h2) ⟨.str _, H, I.tok _, ⟨_, rfl⟩, q⟩
  | str z =>
    obtain ⟨t, rfl⟩ := ru
    exact PySem.P.repr_of_str ⟨.str _, H, I.tok _, ⟨_, rfl⟩, q⟩ h4
  | lst _ _ => cases ru; exact big hr
  | tup _ _ => cases ru; exact big hr
theorem sem_repr : SemN X (fun xs H Q => ∃ x d, xs = [x] ∧ Dp X.K H x d ∧ shw d = true ∧ Q (.str d.shown) H) reprO := by
  intro F H xs ds res Q al hv e h
  unfold reprO at e
  split at e
  · split at e
    · rename_i hs
      cases e
      obtain ⟨x, rfl, h1⟩ := hv.one
      refine ⟨_, _, rfl, h1.dp ?_, hs, h.str⟩
      unfold shw at hs
      simp only [Bool.and_eq_true] at hs
      exact hs.1.1.1
    · cases e
  · cases e
end
/-! ### the law itself: its first statement hands out the source -/
/-- the script handed in, True out -/
def spL (K : PySem.W.Frag) : Sp := fun vs H Q _ => ∃ (a : Addr) (ns : List Int), vs = [.ref a] ∧ SqL K H a (ns.map V.int) ∧ ns.length ≤ 63 ∧ ∀ H', Q (.bl true) H'
/-- what opens the script: a new object at level n -/
def spOpen (K : PySem.W.Frag) (f : List Int → Val) : Sp := fun vs H Q _ => ∃ (a : Addr) (ns : List Int), vs = [.ref a] ∧ SqL K H a (ns.map V.int) ∧ ns.length ≤ 63 ∧
  ∀ x F' H' R, (∀ b o, H b = some o → H' b = some o) → (∀ b, F' b → H b = none ∧ ∃ o, H' b = some o) → (∀ b, R b → H b = none) → Ow K F' H' (f ns).n x (f ns).d R → Q x H'
theorem law_den {P : Program} {w : World} {K : PySem.W.Frag} {mg : Str → Option Value} {base : Heap} {x qual : Str} {st : Stmt} {f fo : Addr} {fd fdo : FuncData} {N : List Str} {k ko : Nat} {b : RS} {op : List Int → Val} {nmo src scr : Str} {p1 p2 p3 p4 p5 : Pos} {rest : List Stmt}
    (F : Fun K x qual st f fd) (S : FnScope N [scr] (defScope st)) (eb : defBody st = .Assign [.Name src p1] (.Call (.Name nmo p2) [.Name scr p3] [] p4) p5 :: rest) (hN0 : N[0]? = some scr) (hN1 : N[1]? = some src) (hv0 : Vis (defScope st) scr) (hs1 : (defScope st).names.lookup src = some .local)
    (hgo : (defScope st).names.lookup nmo = some .globalImplicit) (Fo : FnG P w K mg base ko fo fdo [scr] (spOpen K op)) (hko : ko ≤ k) (mo : mg nmo = some (.ref fo)) (ko2 : PySem.W.keepIn K (.ref fo) = true) (bo : Binds K fdo [scr] []) (hd1 : (nmo == ("__debug__" : Str)) = false) (hd2 : (scr == ("__debug__" : Str)) = false) (hd3 : (scr == ("__classdict__" : Str)) = false)
    (hsw : ∀ cdv (A : Around) outer (s : Shared) (H : Hp), swapsWith (.Call (.Name nmo p2) [.Name scr p3] [] p4) (some (.Name src p1)) p5.line (cxOf CX0 P w K mg base N qual (defScope st) f cdv A outer s H E0).nox.env = pure false)
    (hb : ∀ (cdv : Value) (A : Around) (outer : List PySem.Env) (s : Shared) (H : Hp) (σ0 : St), RoomG k (A.deeper (PyProof.Rows.envOfC qual (defScope st) s.heap.objs.size f cdv)) → PSs (cxOf CX0 P w K mg base N qual (defScope st) f cdv A outer s H E0).nox rest (rdS K [] σ0 b))
    (main : ∀ ns : List Int, ns.length ≤ 63 → ∃ e, b (none :: some (op ns) :: List.replicate (N.length - 2) none) = some (.rt (fz (.bool true)), e)) :
    FnG P w K mg base (k + 1) f fd [scr] (spL K) := by
  refine Fun.okG F S (fun vs H Q E h => ?_) fun cdv A outer s H vs Q hr h => ?_
  · obtain ⟨a, ns, rfl, _⟩ := h; rfl
  · obtain ⟨a, ns, rfl, hS, hl, h⟩ := h
    have hlen : 2 ≤ N.length := by
      have := (List.getElem?_eq_some_iff.mp hN1).1
      omega
    refine ⟨_, by
      rw [eb]
      exact pss_cons (ps_set (i := 1) S.nd hN1 (.inl hs1) (pe_callG (Fo.mono hko) hr hgo mo ko2 bo (pa_cons (pe_var hN0 hv0 hd2 hd3) pa_nil rfl) hd1 rfl rfl) (hsw cdv A outer s H) (.inr hs1)) (hb cdv A outer s H (L2.start N [.ref a]) hr), ?_⟩
    have e0 : (L2.start N [V.ref a])[0]? = some (some (.ref a)) := by unfold L2.start; rfl
    refine ⟨.ref a, e0, a, ns, rfl, hS, hl, fun x F' H' R hH hF hR w => ?_⟩
    refine ⟨F', none :: some (op ns) :: List.replicate (N.length - 2) none, fun j b => j = 1 ∧ R b, ⟨fun j v e => ?_, fun j b z => ?_, fun i j b z1 z2 => by rw [z1.1, z2.1], fun b z => (hF b z).2, (fun _ z => nomatch z), ?_⟩, ?_⟩
    · match j, e with
      | 0, e => cases e
      | 1, e =>
        cases e
        refine ⟨x, ?_, ?_⟩
        · unfold L2.start
          rw [List.getElem?_set_self (by simp; omega)]
        · have eO : (fun b => (1 : Nat) = 1 ∧ R b) = R := by funext b; exact propext ⟨fun z => z.2, fun z => ⟨rfl, z⟩⟩
          rw [eO]
          exact w
      | j + 2, e =>
        rw [List.getElem?_cons_succ, List.getElem?_cons_succ, List.getElem?_replicate] at e
        split at e <;> cases e
    · rw [z.1]
      exact ⟨_, rfl⟩
    · unfold L2.start
      simp
      omega
    · obtain ⟨e, he⟩ := main ns hl
      rw [he]
      intro y σ' F2 H2 O2 R2 st2 s2 w2 d2
      have : y = .bl true := by cases w2 with | fz h _ _ => cases h; rfl
      rw [this]
      exact h H2
end Dn
end
section
set_option Elab.async false
set_option linter.all false
set_option maxRecDepth 100000
set_option maxHeartbeats 4000000
namespace Dn
open PySem L2
/-! ### the source of drawn numbers -/
structure Src where
  cells : List Int
  left : Int
  mixed : Int
  turn : Int
def encSD (s : Src) : D := .dict [(.str "cells", .list (s.cells.map PyData.int)), (.str "left", .int s.left), (.str "mixed", .int s.mixed), (.str "turn", .int s.turn)]
def encS (s : Src) : Val := ⟨encSD s, 2⟩
theorem ints_inj : ∀ {a b : List Int}, a.map PyData.int = b.map PyData.int → a = b
  | [], [], _ => rfl
  | [], _ :: _, h => nomatch h
  | _ :: _, [], h => nomatch h
  | x :: a, y :: b, h => by
    rw [List.map_cons, List.map_cons] at h
    injection h with h1 h2
    injection h1 with h1
    rw [h1, ints_inj h2]
theorem encS_inj {s t : Src} (h : encS s = encS t) : s = t := by
  obtain ⟨a, b, c, d⟩ := s
  obtain ⟨a', b', c', d'⟩ := t
  unfold encS encSD at h
  injection h with h _
  injection h with h
  injection h with h1 h
  injection h with h2 h
  injection h with h3 h
  injection h with h4 h
  injection h1 with _ h1
  injection h1 with h1
  injection h2 with _ h2
  injection h2 with h2
  injection h3 with _ h3
  injection h3 with h3
  injection h4 with _ h4
  injection h4 with h4
  dsimp only at h1 h2 h3 h4
  have h1' := ints_inj h1
  subst h1' h2 h3 h4
  rfl
def srcK (c : Addr) (l m t : Int) : List (Key × V) := [(Sum.inr "cells", .ref c), (Sum.inr "left", .int l), (Sum.inr "mixed", .int m), (Sum.inr "turn", .int t)]
theorem srcK_cells (c : Addr) (l m t : Int) : valV (srcK c l m t) (Sum.inr "cells" : Key) = some (.ref c) := rfl
theorem srcK_left (c : Addr) (l m t : Int) : valV (srcK c l m t) (Sum.inr "left" : Key) = some (.int l) := rfl
theorem srcK_mixed (c : Addr) (l m t : Int) : valV (srcK c l m t) (Sum.inr "mixed" : Key) = some (.int m) := rfl
theorem srcK_turn (c : Addr) (l m t : Int) : valV (srcK c l m t) (Sum.inr "turn" : Key) = some (.int t) := rfl
theorem srcK_put_left (c : Addr) (l m t z : Int) : putK (srcK c l m t) (Sum.inr "left" : Key) (.int z) = srcK c z m t := rfl
theorem srcK_put_turn (c : Addr) (l m t z : Int) : putK (srcK c l m t) (Sum.inr "turn" : Key) (.int z) = srcK c l m z := rfl
theorem srcK_put_mixed (c : Addr) (l m t z : Int) : putK (srcK c l m t) (Sum.inr "mixed" : Key) (.int z) = srcK c l z t := rfl
/-- the source stands at a, its cells at c -/
structure SrcAt (H : Hp) (a c : Addr) (s : Src) : Prop where
  d : H a = some (.dK (srcK c s.left s.mixed s.turn))
  l : H c = some (.lst (s.cells.map V.int))
theorem SrcAt.ne {H : Hp} {a c : Addr} {s : Src} (h : SrcAt H a c s) : a ≠ c := ne_of h.d h.l (by intro z; cases z)
theorem kD_str {k : Key} {x : Str} (h : kD k = .str x) : k = Sum.inr x := by
  cases k with
  | inl i => cases h
  | inr y => cases h; rfl
theorem src_of {K : PySem.W.Frag} {F : AS} {H : Hp} {x : V} {s : Src} {O : AS} (w : Ow K F H 2 x (encSD s) O) : ∃ a c, x = .ref a ∧ SrcAt H a c s ∧ ¬ F a ∧ ¬ F c ∧ ∀ b, O b ↔ (b = a ∨ b = c) := by
  unfold encSD at w
  cases w with
  | fz _ c _ => rcases c with c | c <;> cases c
  | dK ha fa t na io =>
    rename_i a kvs O'
    generalize hk1 : (PyData.str "cells", PyData.list (s.cells.map PyData.int)) = k1 at t
    cases t with
    | cons w1 t j1 i1 =>
      rename_i kk1 x1 d1 kvs1 O1 O2
      injection hk1 with e1 e2
      subst e2
      have ek1 := kD_str e1.symm
      subst ek1
      generalize hk2 : (PyData.str "left", PyData.int s.left) = k2 at t
      cases t with
      | cons w2 t j2 i2 =>
        rename_i kk2 x2 d2 kvs2 O3 O4
        injection hk2 with e1 e2
        subst e2
        have ek2 := kD_str e1.symm
        subst ek2
        generalize hk3 : (PyData.str "mixed", PyData.int s.mixed) = k3 at t
        cases t with
        | cons w3 t j3 i3 =>
          rename_i kk3 x3 d3 kvs3 O5 O6
          injection hk3 with e1 e2
          subst e2
          have ek3 := kD_str e1.symm
          subst ek3
          generalize hk4 : (PyData.str "turn", PyData.int s.turn) = k4 at t
          cases t with
          | cons w4 t j4 i4 =>
            rename_i kk4 x4 d4 kvs4 O7 O8
            injection hk4 with e1 e2
            subst e2
            have ek4 := kD_str e1.symm
            subst ek4
            cases t with
            | nil e0 =>
              cases w2 with
              | fz w2 _ n2 =>
                cases w2
                cases w3 with
                | fz w3 _ n3 =>
                  cases w3
                  cases w4 with
                  | fz w4 _ n4 =>
                    cases w4
                    cases w1 with
                    | fz _ c _ => rcases c with c | c <;> cases c
                    | lst hc fc tc nc ic =>
                      rename_i c xs O9
                      obtain ⟨tz, em⟩ := OwL.fz0 rfl tc
                      have exs : xs = s.cells.map V.int := by
                        refine FzL.intsD tz ?_
                        have : ∀ l : List Int, intsD (l.map PyData.int) = some l := fun l => by
                          induction l with
                          | nil => rfl
                          | cons i l ih => rw [List.map_cons]; unfold intsD; rw [ih]; rfl
                        exact this _
                      subst exs
                      refine ⟨a, c, rfl, ⟨ha, hc⟩, fa, fc, fun b => ?_⟩
                      rw [io b, i1 b, ic b, i2 b, i3 b, i4 b]
                      have n9 := em b
                      have n2' := n2 b
                      have n3' := n3 b
                      have n4' := n4 b
                      have n5' := e0 b
                      simp [n9, n2', n3', n4', n5']
theorem of_src {K : PySem.W.Frag} {F : AS} {H : Hp} {a c : Addr} {s : Src} {O : AS} (h : SrcAt H a c s) (fa : ¬ F a) (fc : ¬ F c) (hO : ∀ b, O b ↔ (b = a ∨ b = c)) : Ow K F H 2 (.ref a) (encSD s) O := by
  have hne := h.ne
  unfold encSD
  refine .dK (n := 1) (O := fun b => b = c) h.d fa ?_ hne hO
  refine .cons (k := Sum.inr "cells") (O1 := fun b => b = c) (O2 := fun _ => False) ?_ ?_ (fun _ _ z => z) (by intro b; simp)
  · exact own1 h.l fc (FzL.ints _) fun _ => Iff.rfl
  · refine .cons (k := Sum.inr "left") (O1 := fun _ => False) (O2 := fun _ => False) (.fz (.int _) (.inr rfl) fun _ z => z) ?_ (fun _ _ z => z) (by intro b; simp)
    refine .cons (k := Sum.inr "mixed") (O1 := fun _ => False) (O2 := fun _ => False) (.fz (.int _) (.inr rfl) fun _ z => z) ?_ (fun _ _ z => z) (by intro b; simp)
    refine .cons (k := Sum.inr "turn") (O1 := fun _ => False) (O2 := fun _ => False) (.fz (.int _) (.inr rfl) fun _ z => z) ?_ (fun _ _ z => z) (by intro b; simp)
    exact .nil fun _ z => z
open Classical in
/-- a pick as a def's function -/
noncomputable def pickD (pick : Src → Int → Int × Src) : DF := fun as => match as with
  | [v, ⟨.int m, 0⟩] => if h : (∃ s, v = encS s) ∧ m < 1073741824 then some (fz (.int (pick h.1.choose m).1), [some (encS (pick h.1.choose m).2), some (fz (.int m))]) else none
  | _ => none
open Classical in
theorem pickD_eq (pick : Src → Int → Int × Src) (s : Src) (m : Int) (hm : m < 1073741824) : pickD pick [encS s, fz (.int m)] = some (fz (.int (pick s m).1), [some (encS (pick s m).2), some (fz (.int m))]) := by
  unfold pickD
  have h : (∃ t, encS s = encS t) ∧ m < 1073741824 := ⟨⟨s, rfl⟩, hm⟩
  show (if h : _ then _ else _) = _
  rw [dif_pos h]
  have e := h.1.choose_spec
  rw [← encS_inj e]
/-- the promise of a pick, from what its body does to the heap -/
theorem pick_sp {K : PySem.W.Frag} {pick : Src → Int → Int × Src} {vs : List V} {H : Hp} {Q : VK} (h : spD K [0] 2 (pickD pick) vs H Q E0) :
    ∃ a c s m, vs = [.ref a, .int m] ∧ m < 1073741824 ∧ SrcAt H a c s ∧ ∀ H', SrcAt H' a c (pick s m).2 → (∀ b, b ≠ a → b ≠ c → H' b = H b) → Q (.int (pick s m).1) H' := by
  obtain ⟨hl, F, as, O, sa, r, fin, e, h⟩ := h
  unfold pickD at e
  split at e
  · rename_i v m
    split at e
    · rename_i hh
      obtain ⟨s, es, hcs⟩ : ∃ s, v = encS s ∧ hh.1.choose = s := ⟨_, hh.1.choose_spec, rfl⟩
      rw [hcs] at e
      cases e
      have hm := hh.2
      clear hcs hh
      subst es
      obtain ⟨x0, ex0, w0⟩ := sa.slot 0 (encS s) rfl
      obtain ⟨x1, ex1, w1⟩ := sa.slot 1 ⟨.int m, 0⟩ rfl
      obtain ⟨a, c, rfl, hs, fa, fc, io⟩ := src_of w0
      have e1 : x1 = .int m := by cases w1 with | fz h _ _ => cases h; rfl
      subst e1
      match vs, hl, ex0, ex1 with
      | [y0, y1], _, ex0, ex1 =>
        cases ex0
        cases ex1
        refine ⟨a, c, s, m, rfl, hm, hs, fun H' hs' hk => ?_⟩
        have hal : ∀ b o, H b = some o → ∃ o', H' b = some o' := fun b o e => by
          by_cases ha : b = a
          · subst ha; exact ⟨_, hs'.d⟩
          · by_cases hc : b = c
            · subst hc; exact ⟨_, hs'.l⟩
            · exact ⟨o, by rw [hk b ha hc]; exact e⟩
        refine h (.int (pick s m).1) F H' (fun _ => False) (fun i b => i = 0 ∧ O 0 b) ([some (.ref a), some (.int m)]) ⟨fun _ z => z, fun _ z => .inl z, fun b z => ?_, fun b o e n => ?_, hal⟩ ⟨fun i u e => ?_, fun i b z => ?_, fun i j b z1 z2 => by rw [z1.1, z2.1], fun b z => ?_, fun j hj => rfl, rfl⟩ (.of_fz (.int _)) fun _ _ z => z
        · rcases z with ⟨i, z⟩ | z
          · exact .inl ⟨0, z.2⟩
          · exact z.elim
        · have ha : b ≠ a := fun z => n ⟨0, (io b).mpr (.inl z)⟩
          have hc : b ≠ c := fun z => n ⟨0, (io b).mpr (.inr z)⟩
          rw [hk b ha hc]; exact e
        · match i, e with
          | 0, e =>
            cases e
            refine ⟨_, rfl, ?_⟩
            have eO : (fun b => (0 : Nat) = 0 ∧ O 0 b) = O 0 := by funext b; exact propext ⟨fun z => z.2, fun z => ⟨rfl, z⟩⟩
            rw [eO]
            exact of_src hs' fa fc io
          | 1, e =>
            cases e
            exact ⟨_, rfl, .fz (.int _) (.inl rfl) fun b z => nomatch z.1⟩
          | i + 2, e => cases e
        · rw [z.1]; exact ⟨_, rfl⟩
        · obtain ⟨o, e⟩ := sa.al b z
          exact hal b o e
    · cases e
  · cases e
/-- a new source -/
theorem open_sp {K : PySem.W.Frag} {F : AS} {H H' : Hp} {a c : Addr} {s : Src} (h : SrcAt H' a c s) (ha : H a = none) (hc : H c = none) : Ow K (fun _ => False) H' 2 (.ref a) (encSD s) (fun b => b = a ∨ b = c) ∧ (∀ b, (b = a ∨ b = c) → H b = none) :=
  ⟨of_src h (fun z => z) (fun z => z) fun _ => Iff.rfl, fun b z => z.elim (fun z => by rw [z]; exact ha) fun z => by rw [z]; exact hc⟩
end Dn
end
section
set_option Elab.async false
set_option linter.all false
set_option maxRecDepth 100000
namespace Dn
open PySem L2
variable {X : Cx} {J : List Nat} {σ0 : St} {pos p : Pos}
/-! ### what is walked, of frozen operands -/
def opFI (o : List D → Option (List D)) (os : List Opd) : RI := fun env => (rN os env).bind fun p => (rsF p.1).bind fun ds => (o ds).map fun r => (r, p.2)
def SemFI (X : Cx) (r : List V → Hp → (It → Hp → Prop) → Prop) (o : List D → Option (List D)) : Prop :=
  ∀ (F : AS) (H : Hp) (xs : List V) (ds res : List D) (Q : It → Hp → Prop), (∀ a, F a → ∃ u, H a = some u) → FzL X.K F H xs ds → o ds = some res → (∀ I, Serves X.K I res F H → Q I H) → r xs H Q
theorem opFI_run {σ : St} {H : Hp} {r : List V → Hp → (It → Hp → Prop) → Prop} {o : List D → Option (List D)} {os : List Opd} {Q : It → Hp → Prop} (hr : SemFI X r o) (h : rdI X.K J σ0 (opFI o os) σ H Q) : tOs X.K J σ0 os σ H fun xs H1 => r xs H1 Q := by
  obtain ⟨F, env, O, s, h⟩ := h
  unfold opFI at h
  cases q : rN os env with
  | none => rw [q] at h; exact h.elim
  | some p =>
    obtain ⟨ps, env1⟩ := p
    rw [q] at h
    dsimp only [Option.bind] at h
    cases q2 : rsF ps with
    | none => rw [q2] at h; exact h.elim
    | some ds =>
      rw [q2] at h
      dsimp only at h
      cases q3 : o ds with
      | none => rw [q3] at h; exact h.elim
      | some res =>
        rw [q3] at h
        refine tOs_run s q fun xs F1 H1 O1 R1 st1 s1 w1 d1 => ?_
        exact hr F1 H1 xs ds res Q s1.al (rsF_fz w1 q2) q3 fun I sv => h I F1 H1 O1 (st1.less fun a z => .inl z) s1 sv
def pairsD (as bs : List D) : List D := (as.zip bs).map fun p => .tuple [p.1, p.2]
def zipO : List D → Option (List D)
  | [.list as, .list bs] => some (pairsD as bs)
  | [.tuple as, .tuple bs] => some (pairsD as bs)
  | _ => none
theorem pairsD_get {as bs : List D} {i : Nat} {d : D} (e : (pairsD as bs)[i]? = some d) : ∃ a b, as[i]? = some a ∧ bs[i]? = some b ∧ d = .tuple [a, b] := by
  unfold pairsD at e
  rw [List.getElem?_map] at e
  cases q : (as.zip bs)[i]? with
  | none => rw [q] at e; cases e
  | some p =>
    rw [q] at e
    cases e
    have := List.getElem?_zip_eq_some.mp q
    exact ⟨p.1, p.2, this.1, this.2, rfl⟩
theorem pairsD_stop {as bs : List D} {i : Nat} (h : (pairsD as bs).length ≤ i) : as.length ≤ i ∨ bs.length ≤ i := by
  unfold pairsD at h
  rw [List.length_map, List.length_zip] at h
  omega
theorem upd_tup {K : PySem.W.Frag} {F' : AS} {H' : Hp} {T : Addr} {x y : V} {a b : D} (al : ∀ a, F' a → ∃ o, H' a = some o) (hT : H' T = none) (wx : Fz K F' H' x a) (wy : Fz K F' H' y b) :
    ∃ F'' : AS, (∀ a o, H' a = some o → upd H' T (.tup [x, y]) a = some o) ∧ (∀ a, F' a → F'' a) ∧ (∀ a, F'' a → F' a ∨ (H' a = none ∧ ∃ o, upd H' T (.tup [x, y]) a = some o)) ∧ Fz K F'' (upd H' T (.tup [x, y])) (.ref T) (.tuple [a, b]) := by
  have hk : ∀ a o, H' a = some o → upd H' T (.tup [x, y]) a = some o := fun a o e => by rw [upd_ne (ne_of_none e hT)]; exact e
  refine ⟨fun a => F' a ∨ a = T, hk, fun _ z => .inl z, fun a z => z.elim .inl fun e => .inr (by subst e; exact ⟨hT, _, upd_same⟩), ?_⟩
  exact .tup ⟨.inr rfl, upd_same⟩ (.cons (wx.mono (fun _ z => .inl z) fun a o _ e => hk a o e) (.cons (wy.mono (fun _ z => .inl z) fun a o _ e => hk a o e) .nil))
theorem serves_zipL {K : PySem.W.Frag} {F : AS} {H : Hp} {a b : Addr} {xs ys : List V} {as bs : List D} (h : At F H a (.lst xs)) (t : FzL K F H xs as) (h2 : At F H b (.lst ys)) (t2 : FzL K F H ys bs) : Serves K (Itz K a b) (pairsD as bs) F H := by
  intro F' H' hF hk al i
  have h' := h.mono hF hk
  have t' := t.mono hF hk
  have h2' := h2.mono hF hk
  have t2' := t2.mono hF hk
  refine ⟨fun d e => ?_, fun hi => ⟨xs, ys, .inl (.inl h'.2), .inl (.inl h2'.2), by rw [t.length, t2.length]; exact pairsD_stop hi⟩⟩
  obtain ⟨da, db, ea, eb, rfl⟩ := pairsD_get e
  obtain ⟨x, ex, w⟩ := t'.get ea
  obtain ⟨y, ey, w2⟩ := t2'.get eb
  refine ⟨⟨xs, ys, x, y, .inl (.inl h'.2), .inl (.inl h2'.2), ex, ey⟩, fun z H'' hy => ?_⟩
  obtain ⟨T, x', y', rfl, hT, rfl, ha, hb⟩ := hy
  have := ha xs (.inl (.inl h'.2))
  rw [ex] at this; cases this
  have := hb ys (.inl (.inl h2'.2))
  rw [ey] at this; cases this
  exact upd_tup al hT w w2
theorem serves_zipT {K : PySem.W.Frag} {F : AS} {H : Hp} {a b : Addr} {as bs : List D} (h : Fz K F H (.ref a) (.tuple as)) (h2 : Fz K F H (.ref b) (.tuple bs)) : Serves K (RZ.ItzT K a b) (pairsD as bs) F H := by
  intro F' H' hF hk al i
  obtain ⟨a', xs, e, h', t', _⟩ := (Vw.fz (h.mono hF hk)).tup
  cases e
  obtain ⟨b', ys, e, h2', t2', _⟩ := (Vw.fz (h2.mono hF hk)).tup
  cases e
  refine ⟨fun d e => ?_, fun hi => ⟨xs, ys, h', h2', by rw [t'.length, t2'.length]; exact pairsD_stop hi⟩⟩
  obtain ⟨da, db, ea, eb, rfl⟩ := pairsD_get e
  obtain ⟨x, ex, w⟩ := t'.get ea
  obtain ⟨y, ey, w2⟩ := t2'.get eb
  refine ⟨⟨xs, ys, x, y, h', h2', ex, ey⟩, fun z H'' hy => ?_⟩
  obtain ⟨T, x', y', rfl, hT, rfl, ha, hb⟩ := hy
  have := ha xs h'
  rw [ex] at this; cases this
  have := hb ys h2'
  rw [ey] at this; cases this
  exact upd_tup al hT w w2
variable {oa ob : Opd} {a b : Expr}
theorem i_zip {elts : List Expr} {kk : Nat} {tpos : Pos} (hg : Gl X "zip") (hm : X.mg "zip" = none) (ha : PE X a (tO X.K J σ0 oa)) (hb : PE X b (tO X.K J σ0 ob)) (hs : starEach [a, b] X.env = (false, eval a X.env) :: starEach [b] X.env := by rfl) (hs2 : starEach [b] X.env = (false, eval b X.env) :: starEach [] X.env := by rfl) (hpl : (backTo pos (starEach [b] X.env)).any (·.1) = false := by rfl) :
    PI X (.Tuple elts kk tpos) (.Call (.Name "zip" p) [a, b] [] pos) (rdI X.K J σ0 (opFI zipO [oa, ob])) :=
  (RZ.pi_zipA hg hm (pa_cons ha (pa_cons hb pa_nil hs2) hs) hs hpl).conseq fun σ H Q h => by
    refine opFI_run (r := fun vs H1 R => ∃ a b xs ys, vs = [.ref a, .ref b] ∧ ((SqL X.K H1 a xs ∧ SqL X.K H1 b ys ∧ R (Itz X.K a b) H1) ∨ (SqT X.K H1 a xs ∧ SqT X.K H1 b ys ∧ R (RZ.ItzT X.K a b) H1))) ?_ h
    intro F H xs ds res Q al hv e h
    unfold zipO at e
    split at e
    · cases e
      cases hv with
      | cons w hv =>
        cases hv with
        | cons w2 hv =>
          cases hv
          cases w with
          | lst h1 t1 =>
            cases w2 with
            | lst h2 t2 => exact ⟨_, _, _, _, rfl, .inl ⟨.inl (.inl h1.2), .inl (.inl h2.2), h _ (serves_zipL h1 t1 h2 t2)⟩⟩
    · cases e
      cases hv with
      | cons w hv =>
        cases hv with
        | cons w2 hv =>
          cases hv
          obtain ⟨a', xs, rfl, h', t', _⟩ := (Vw.fz w).tup
          obtain ⟨b', ys, rfl, h2', t2', _⟩ := (Vw.fz w2).tup
          exact ⟨_, _, _, _, rfl, .inr ⟨h', h2', h _ (serves_zipT w w2)⟩⟩
    · cases e
/-! ### a def of the text with its promise, as callers take it -/
structure Own (K : PySem.W.Frag) (mg : Str → Option Value) (x : Str) (st : Stmt) : Prop where
  ex : ∃ f fd, Fun K x x st f fd ∧ mg x = some (.ref f)
structure Cal (P : Program) (w : World) (K : PySem.W.Frag) (mg : Str → Option Value) (base : Heap) (x : Str) (k : Nat) (ps : List Str) (sp : Sp) : Prop where
  ex : ∃ f fd, mg x = some (.ref f) ∧ PySem.W.keepIn K (.ref f) = true ∧ Binds K fd ps [] ∧ FnG P w K mg base k f fd ps sp
theorem Cal.mono {P : Program} {w : World} {K : PySem.W.Frag} {mg : Str → Option Value} {base : Heap} {x : Str} {k l : Nat} {ps : List Str} {sp : Sp} (C : Cal P w K mg base x k ps sp) (h : k ≤ l) : Cal P w K mg base x l ps sp :=
  let ⟨f, fd, a, b, c, d⟩ := C.ex; ⟨f, fd, a, b, c, d.mono h⟩
theorem own_mk {K : PySem.W.Frag} {mg : Str → Option Value} {x : Str} {st : Stmt} {f : Addr} {h : Heap} {oc : Value} {od an : Option Addr} {osl : Array (Option Value)} {kV doc pm cdv ct : Value} (X : K.In h) (G : h.Ns mainGlobals mg) (a : PySem.W.nsIn K mainGlobals x = some (some (.ref f)))
    (l : K.lookup f = some ⟨oc, od, .func (PySem.W.fnOf x x (defArgs st) (defBody st) (defScope st) .none kV doc pm an cdv ct), osl⟩)
    (c : PySem.W.codeIn K cdv x = true) (k : PySem.W.keepIn K (.ref f) = true) : Own K mg x st := ⟨⟨_, _, fun_mk l c k, PySem.W.mg_of X G a⟩⟩
theorem cal_den {P : Program} {w : World} {K : PySem.W.Frag} {mg : Str → Option Value} {base : Heap} {x : Str} {st : Stmt} {N ps : List Str} {k n : Nat} {J : List Nat} {b : RS} (F : Own K mg x st) (S : FnScope N ps (defScope st)) (hn : ps.length = n) (hJ : ∀ j ∈ J, j < n)
    (hbd : ∀ (kV doc pm : Value) (an : Option Addr) (cdv ct : Value) (us : List Value), us.length = ps.length → bindArgs (PySem.W.fnOf x x (defArgs st) (defBody st) (defScope st) .none kV doc pm an cdv ct) ⟨us, []⟩ = pure (ps.zip us))
    (hb : ∀ (f : Addr) (cdv : Value) (A : Around) (outer : List PySem.Env) (s : Shared) (H : Hp) (σ0 : St), RoomG k (A.deeper (PyProof.Rows.envOfC x (defScope st) s.heap.objs.size f cdv)) → PSs (cxOf CX0 P w K mg base N x (defScope st) f cdv A outer s H E0).nox (defBody st) (rdS K J σ0 b)) :
    Cal P w K mg base x (k + 1) ps (spD K J n (runB N.length b)) := by
  obtain ⟨f, fd, F, hm⟩ := F.ex
  exact ⟨f, fd, hm, F.kp, F.binds hbd, fn_den F S hn hJ (hb f)⟩
variable {e : Expr} {es : List Expr} {os : List Opd} {k j : Nat} {ps : List Str} {nm : Str} {n : Nat} {f : DF}
theorem c_call (C : Cal X.prog X.w X.K X.mg X.base nm k ps (spD X.K [] n f)) (hr : RoomG j X.A) (hkj : k ≤ j) (hg : Gl X nm) (ha : PA X (e :: es) (tOs X.K J σ0 os)) (hn : os.length = n := by rfl)
    (hdb : (nm == ("__debug__" : Str)) = false := by decide) (he : starEach (e :: es) X.env = (false, eval e X.env) :: starEach es X.env := by rfl) (hpl : (backTo pos (starEach es X.env)).any (·.1) = false := by rfl) :
    PE X (.Call (.Name nm p) (e :: es) [] pos) (rdE X.K J σ0 (callE f os)) := by
  obtain ⟨ff, fd, hm, hk, hb, F⟩ := C.ex
  exact e_call F (hr.mono hkj) hg hm hk hb ha hn hdb he hpl
theorem c_call0 (C : Cal X.prog X.w X.K X.mg X.base nm k ps (spD X.K [] 0 f)) (hr : RoomG j X.A) (hkj : k ≤ j) (hg : Gl X nm)
    (hdb : (nm == ("__debug__" : Str)) = false := by decide) : PE X (.Call (.Name nm p) [] [] pos) (rdE X.K J σ0 (callE f [])) := by
  obtain ⟨ff, fd, hm, hk, hb, F⟩ := C.ex
  exact e_call0 F (hr.mono hkj) hg hm hk hb hdb
theorem c_io {i : Nat} (C : Cal X.prog X.w X.K X.mg X.base nm k ps (spD X.K [0] n f)) (hr : RoomG j X.A) (hkj : k ≤ j) (hg : Gl X nm) (h0 : PE X e (tVar i)) (ha : PA X es (tOs X.K J σ0 os)) (hn : os.length + 1 = n := by rfl)
    (hdb : (nm == ("__debug__" : Str)) = false := by decide) (he : starEach (e :: es) X.env = (false, eval e X.env) :: starEach es X.env := by rfl) (hpl : (backTo pos (starEach es X.env)).any (·.1) = false := by rfl) :
    PE X (.Call (.Name nm p) (e :: es) [] pos) (rdE X.K J σ0 (callIO f i os)) := by
  obtain ⟨ff, fd, hm, hk, hb, F⟩ := C.ex
  exact e_io F (hr.mono hkj) hg hm hk hb h0 ha hn hdb he hpl
/-! ### while, by a bound -/
theorem whileN_run {c : RT} {b : RS} {m : Nat} {K : PySem.W.Frag} {σ : St} {H : Hp} {Dn : Ends} (h : rdS K J σ0 (whileN c b m) Dn σ H) : rdS K J σ0 (whileS c b) Dn σ H := by
  obtain ⟨F, env, O, s, p⟩ := h
  refine ⟨F, env, O, s, ?_⟩
  cases q : whileN c b m env with
  | none => rw [q] at p; exact p.elim
  | some r => rw [whileS_eq q, ← q]; exact p
/-! ### a, b, c = x, y, z -/
def parS3 (i j l : Nat) (os : List Opd) : RS := fun env => (rN os env).bind fun p => (rsF p.1).bind fun ds => match ds with
  | [d, e, f] => some (.nx, ((p.2.set i (some (fz d))).set j (some (fz e))).set l (some (fz f)))
  | _ => none
theorem s_par3 {i j l : Nat} {y z u : Str} {px py pz pt : Pos} {kt k2 : Nat} {pt2 : Pos} {c : Expr} (hc : X.calm = true) (hN : X.N.Nodup) (hi : X.N[i]? = some y) (hj : X.N[j]? = some z) (hl : X.N[l]? = some u) (hij : i ≠ j) (hil : i ≠ l) (hjl : j ≠ l) (hJi : i ∉ J) (hJj : j ∉ J) (hJl : l ∉ J)
    (hy : X.env.scope.names.lookup y = some .local) (hz : X.env.scope.names.lookup z = some .local) (hu : X.env.scope.names.lookup u = some .local) (ha : PA X [a, b, c] (tOs X.K J σ0 os)) (hw : swappedStores [.Tuple [.Name y px, .Name z py, .Name u pz] kt pt] (.Tuple [a, b, c] k2 pt2) X.env = pure (some [y, z, u]))
    (hs : swapsWithSole [.Tuple [.Name y px, .Name z py, .Name u pz] kt pt] (.Tuple [a, b, c] k2 pt2) pos.line X.env = pure false := by rfl) : PS X (.Assign [.Tuple [.Name y px, .Name z py, .Name u pz] kt pt] (.Tuple [a, b, c] k2 pt2) pos) (rdS X.K J σ0 (parS3 i j l os)) :=
  (ps_par3 hc hN hi hj hl hij hil hjl hy hz hu ha hw hs).conseq fun Dn σ H ⟨F, env, O, s, h⟩ => by
    unfold parS3 at h
    cases q : rN os env with
    | none => rw [q] at h; exact h.elim
    | some p =>
      obtain ⟨ps, env1⟩ := p
      rw [q] at h
      dsimp only [Option.bind] at h
      cases q2 : rsF ps with
      | none => rw [q2] at h; exact h.elim
      | some ds =>
        rw [q2] at h
        dsimp only at h
        split at h
        case h_2 => exact h.elim
        rename_i d e g
        refine tOs_run s q fun xs F1 H1 O1 R1 st1 s1 w1 d1 => ?_
        have wz := rsF_fz w1 q2
        cases wz with
        | cons wx wz =>
          cases wz with
          | cons wy wz =>
            cases wz with
            | cons wg wz =>
              cases wz
              have s2 := s1.store (v := fz d) hJi (.of_fz wx) fun _ _ z => z
              have s3 := s2.store (v := fz e) hJj (.of_fz wy) fun _ _ z => z
              have s4 := s3.store (v := fz g) hJl (.of_fz wg) fun _ _ z => z
              refine ⟨_, _, _, rfl, h _ F1 H1 _ (st1.less fun a z => ?_) s4⟩
              rcases Tot.store a z with z | z
              · rcases Tot.store a z with z | z
                · rcases Tot.store a z with z | z
                  · exact .inl z
                  · exact z.elim
                · exact z.elim
              · exact z.elim
/-! ### the room that is left -/
theorem RoomG.u64 {A : Around} (h : RoomG j A) : A.units + 64 < cLine := by have := h.r.un; omega
theorem RoomG.u65 {A : Around} (h : RoomG j A) : A.units + 65 < cLine := by have := h.r.un; omega
theorem RoomG.u66 {A : Around} (h : RoomG j A) : A.units + 66 < cLine := by have := h.r.un; omega
/-- none of the names stands in the module -/
def NoMg (mg : Str → Option Value) (L : List Str) : Prop := ∀ x ∈ L, mg x = none
/-- a natural -/
def nD (n : Nat) : D := .int (n : Int)
/-! ### ==, !=: texts of any characters, too -/
def eqsO : List D → Option Val
  | [.str a, .str b] => some (fz (.bool (decide (a = b))))
  | [d, e] => eqO [d, e]
  | _ => none
def nesO : List D → Option Val
  | [.str a, .str b] => some (fz (.bool (!decide (a = b))))
  | [d, e] => neO [d, e]
  | _ => none
theorem op_eqS {X : Cx} (hu : X.A.units + 64 < cLine) : OpR X (compareOp .Eq) (fun x y H Q => rEqD X.K x y H Q ∨ rEq x y H Q) := (op_eqD hu).or op_eq
theorem op_neS {X : Cx} (hu : X.A.units + 64 < cLine) : OpR X (compareOp .NotEq) (fun x y H Q => rNeD X.K x y H Q ∨ rNe x y H Q) := (op_neD hu).or op_ne
theorem dec_str2 {a b : Str} : decide (V.str a = V.str b) = decide (a = b) := by
  by_cases h : a = b
  · subst h; simp
  · rw [decide_eq_false h, decide_eq_false (fun z => h (by cases z; rfl))]
theorem sem_eqS {X : Cx} : SemN X (r2 (fun x y H Q => rEqD X.K x y H Q ∨ rEq x y H Q)) eqsO := by
  intro F H xs ds res Q al hv e h
  unfold eqsO at e
  split at e
  · cases e
    obtain ⟨x, y, rfl, h1, h2⟩ := hv.two
    cases h1.str; cases h2.str
    exact .inr ⟨rfl, by rw [dec_str2]; exact h.bl⟩
  · obtain ⟨x, y, rfl, h1, h2⟩ := hv.two
    exact .inl (sem_eq F H _ _ res Q al hv e h)
  · cases e
theorem sem_neS {X : Cx} : SemN X (r2 (fun x y H Q => rNeD X.K x y H Q ∨ rNe x y H Q)) nesO := by
  intro F H xs ds res Q al hv e h
  unfold nesO at e
  split at e
  · cases e
    obtain ⟨x, y, rfl, h1, h2⟩ := hv.two
    cases h1.str; cases h2.str
    exact .inr ⟨rfl, by rw [dec_str2]; exact h.bl⟩
  · obtain ⟨x, y, rfl, h1, h2⟩ := hv.two
    exact .inl (sem_ne F H _ _ res Q al hv e h)
  · cases e
end Dn
end
section
set_option Elab.async false
set_option linter.all false
set_option maxRecDepth 100000
set_option maxHeartbeats 4000000
/-! DnEv: reckoning with the plain semantics -/
namespace Dn
open PySem L2
/-- r stands and is as Q says -/
def Ok {α : Type} (r : Option α) (Q : α → Prop) : Prop := ∃ a, r = some a ∧ Q a
@[simp] theorem ok_some {α : Type} {a : α} {Q : α → Prop} : Ok (some a) Q ↔ Q a := ⟨fun ⟨_, e, q⟩ => by cases e; exact q, fun q => ⟨_, rfl, q⟩⟩
@[simp] theorem ok_none {α : Type} {Q : α → Prop} : Ok none Q ↔ False := ⟨fun h => (by obtain ⟨_, e, _⟩ := h; cases e), False.elim⟩
@[simp] theorem ok_bind {α β : Type} {r : Option α} {f : α → Option β} {Q : β → Prop} : Ok (r.bind f) Q ↔ Ok r fun a => Ok (f a) Q := by
  cases r with
  | none => simp
  | some a => simp
@[simp] theorem ok_map {α β : Type} {r : Option α} {f : α → β} {Q : β → Prop} : Ok (r.map f) Q ↔ Ok r fun a => Q (f a) := by
  cases r with
  | none => simp
  | some a => simp
theorem ok_ite {α : Type} {c : Prop} [Decidable c] {a b : Option α} {Q : α → Prop} : Ok (if c then a else b) Q ↔ ((c → Ok a Q) ∧ (¬ c → Ok b Q)) := by
  by_cases h : c <;> simp [h]
@[simp] theorem ok_guard {α : Type} {c : Prop} [Decidable c] {a : Option α} {Q : α → Prop} : Ok (if c then a else none) Q ↔ (c ∧ Ok a Q) := by
  by_cases h : c <;> simp [h]
theorem Ok.imp {α : Type} {r : Option α} {P Q : α → Prop} (h : Ok r P) (k : ∀ a, P a → Q a) : Ok r Q := let ⟨a, e, p⟩ := h; ⟨a, e, k a p⟩
theorem Ok.eq {α : Type} {r : Option α} {v : α} (h : Ok r (fun a => a = v)) : r = some v := by obtain ⟨a, rfl, rfl⟩ := h; rfl
/-! ### the pieces, as rules -/
@[simp] theorem has_zero_s {v : Val} {e : Ev} : has (some v :: e) 0 = true := rfl
@[simp] theorem has_zero_n {e : Ev} : has (none :: e) 0 = false := rfl
@[simp] theorem has_succ {x : Option Val} {e : Ev} {i : Nat} : has (x :: e) (i + 1) = has e i := rfl
@[simp] theorem at_zero {x : Option Val} {e : Ev} : at_ (x :: e) 0 = x := rfl
@[simp] theorem at_succ {x : Option Val} {e : Ev} {i : Nat} : at_ (x :: e) (i + 1) = at_ e i := rfl
@[simp] theorem rN_nil {env : Ev} : rN [] env = some ([], env) := rfl
@[simp] theorem rN_nm {env : Ev} {i : Nat} {os : List Opd} : rN (.nm i :: os) env = if has env i = true then (rN os env).map fun q => (.inl i :: q.1, q.2) else none := by
  show ((if has env i = true then some (Sum.inl i, env) else none).bind fun p => (rN os p.2).map fun q => (p.1 :: q.1, q.2)) = _
  split <;> rfl
@[simp] theorem rN_ex {env : Ev} {f : RE} {os : List Opd} : rN (.ex f :: os) env = (f env).bind fun p => (rN os p.2).map fun q => (.inr p.1 :: q.1, q.2) := by
  show (((f env).map fun p => (Sum.inr p.1, p.2)).bind fun p => (rN os p.2).map fun q => (p.1 :: q.1, q.2)) = _
  cases f env <;> rfl
@[simp] theorem look_0 {d : D} : look ⟨d, 0⟩ = some d := rfl
@[simp] theorem look_1 {d : D} : look ⟨d, 1⟩ = some d := rfl
@[simp] theorem rsN_nil {env : Ev} : rsN [] env = some [] := rfl
@[simp] theorem rsN_inl {env : Ev} {i : Nat} {ps : List (Sum Nat Val)} : rsN (.inl i :: ps) env = ((at_ env i).bind look).bind fun d => (rsN ps env).map fun ds => d :: ds := rfl
@[simp] theorem rsN_inr {env : Ev} {v : Val} {ps : List (Sum Nat Val)} : rsN (.inr v :: ps) env = (look v).bind fun d => (rsN ps env).map fun ds => d :: ds := rfl
@[simp] theorem rsF_nil : rsF [] = some [] := rfl
@[simp] theorem rsF_inr {v : Val} {ps : List (Sum Nat Val)} : rsF (.inr v :: ps) = if v.n = 0 then (rsF ps).map fun ds => v.d :: ds else none := rfl
@[simp] theorem valsOf_nil {env : Ev} : valsOf env [] = some [] := rfl
@[simp] theorem valsOf_inl {env : Ev} {i : Nat} {ps : List (Sum Nat Val)} : valsOf env (.inl i :: ps) = (at_ env i).bind fun v => (valsOf env ps).map fun vs => fz v.d :: vs := by
  show ((at_ env i).map fun v => fz v.d).bind _ = _
  cases at_ env i <;> rfl
@[simp] theorem valsOf_inr {env : Ev} {v : Val} {ps : List (Sum Nat Val)} : valsOf env (.inr v :: ps) = (valsOf env ps).map fun vs => v :: vs := rfl
@[simp] theorem nmsOf_nil : nmsOf [] = [] := rfl
@[simp] theorem nmsOf_inl {i : Nat} {ps : List (Sum Nat Val)} : nmsOf (.inl i :: ps) = i :: nmsOf ps := rfl
@[simp] theorem nmsOf_inr {v : Val} {ps : List (Sum Nat Val)} : nmsOf (.inr v :: ps) = nmsOf ps := rfl
@[simp] theorem frzAll_nil {env : Ev} : frzAll env [] = env := rfl
@[simp] theorem frzAll_cons {env : Ev} {i : Nat} {is : List Nat} : frzAll env (i :: is) = frzAll (frzOne env i) is := rfl
@[simp] theorem frzOne_def {env : Ev} {i : Nat} : frzOne env i = match at_ env i with
  | some v => if v.n = 0 then env else env.set i (some (fz v.d))
  | none => env := rfl
@[simp] theorem opN_def {o : List D → Option Val} {os : List Opd} {env : Ev} : opN o os env = (rN os env).bind fun p => (rsN p.1 p.2).bind fun ds => (o ds).map fun r => (r, p.2) := rfl
@[simp] theorem opF_def {o : List D → Option Val} {os : List Opd} {env : Ev} : opF o os env = (rN os env).bind fun p => (rsF p.1).bind fun ds => (o ds).map fun r => (r, p.2) := rfl
@[simp] theorem opI_def {o : List D → Option (List D)} {os : List Opd} {env : Ev} : opI o os env = (rN os env).bind fun p => (rsN p.1 p.2).bind fun ds => (o ds).map fun r => (r, p.2) := rfl
@[simp] theorem opFI_def {o : List D → Option (List D)} {os : List Opd} {env : Ev} : opFI o os env = (rN os env).bind fun p => (rsF p.1).bind fun ds => (o ds).map fun r => (r, p.2) := rfl
@[simp] theorem nmE_def {i : Nat} {env : Ev} : nmE i env = (at_ env i).map fun v => (fz v.d, if v.n = 0 then env else env.set i (some (fz v.d))) := rfl
@[simp] theorem mvE_def {i : Nat} {env : Ev} : mvE i env = (at_ env i).map fun v => (v, env.set i none) := rfl
@[simp] theorem cE_def {d : D} {env : Ev} : cE d env = some (fz d, env) := rfl
@[simp] theorem fzE_def {f : RE} {env : Ev} : fzE f env = (f env).map fun p => (fz p.1.d, p.2) := rfl
/-- the answer of a call, freezing what it may share -/
@[simp] theorem callE_def {f : DF} {os : List Opd} {env : Ev} : callE f os env = (rN os env).bind fun p => (valsOf p.2 p.1).bind fun as => (f as).map fun r => if imm r.1.d = true then (fz r.1.d, p.2) else (r.1, frzAll p.2 (nmsOf p.1)) := rfl
@[simp] theorem callIO_def {f : DF} {i : Nat} {os : List Opd} {env : Ev} : callIO f i os env = if has env i = true then (rN os env).bind fun p => match at_ p.2 i with
  | some u => if i ∈ nmsOf p.1 then none else (valsOf p.2 p.1).bind fun as => (f (u :: as)).map fun r => (r.1, (frzAll p.2 (nmsOf p.1)).set i (at_ r.2 0))
  | none => none else none := rfl
@[simp] theorem ifE_def {t : RT} {f g : RE} {env : Ev} : ifE t f g env = (t env).bind fun p => if p.1 = true then f p.2 else g p.2 := rfl
@[simp] theorem notT_def {t : RT} {env : Ev} : notT t env = (t env).map fun p => (!p.1, p.2) := rfl
@[simp] theorem andT_def {t u : RT} {env : Ev} : andT t u env = (t env).bind fun p => if p.1 = true then u p.2 else some (false, p.2) := rfl
@[simp] theorem orT_def {t u : RT} {env : Ev} : orT t u env = (t env).bind fun p => if p.1 = true then some (true, p.2) else u p.2 := rfl
@[simp] theorem yesT_def {env : Ev} : yesT env = some (true, env) := rfl
@[simp] theorem tst_def {f : RE} {env : Ev} : tst f env = (f env).bind fun p => match p.1.d with
  | .bool c => some (c, p.2)
  | _ => none := rfl
@[simp] theorem nmT_def {i : Nat} {d : D} {env : Ev} : nmT i d env = some (env.set i (some (fz d))) := rfl
@[simp] theorem tgsD_nil {env : Ev} : tgsD [] [] env = some env := rfl
@[simp] theorem tgsD_cons {t : TgD} {ts : List TgD} {d : D} {ds : List D} {env : Ev} : tgsD (t :: ts) (d :: ds) env = (t d env).bind fun e => tgsD ts ds e := rfl
@[simp] theorem tupT_tup {ts : List TgD} {ds : List D} {env : Ev} : tupT ts (.tuple ds) env = tgsD ts ds env := rfl
@[simp] theorem tupT_lst {ts : List TgD} {ds : List D} {env : Ev} : tupT ts (.list ds) env = tgsD ts ds env := rfl
/-! statements -/
@[simp] theorem asgS_def {i : Nat} {f : RE} {env : Ev} : asgS i f env = (f env).map fun p => (.nx, p.2.set i (some p.1)) := rfl
@[simp] theorem asgT_def {f : RE} {t : TgD} {env : Ev} : asgT f t env = (f env).bind fun p => if p.1.n = 0 then (t p.1.d p.2).map fun e => (.nx, e) else none := rfl
@[simp] theorem retS_def {f : RE} {env : Ev} : retS f env = (f env).map fun p => (.rt p.1, p.2) := rfl
@[simp] theorem expS_def {f : RE} {env : Ev} : expS f env = (f env).map fun p => (.nx, p.2) := rfl
@[simp] theorem nilS_def {env : Ev} : nilS env = some (.nx, env) := rfl
@[simp] theorem ifS_def {t : RT} {s u : RS} {env : Ev} : ifS t s u env = (t env).bind fun p => if p.1 = true then s p.2 else u p.2 := rfl
@[simp] theorem parS_def {i j : Nat} {os : List Opd} {env : Ev} : parS i j os env = (rN os env).bind fun p => (rsF p.1).bind fun ds => match ds with
  | [d, e] => some (.nx, (p.2.set i (some (fz d))).set j (some (fz e)))
  | _ => none := rfl
@[simp] theorem parS3_def {i j l : Nat} {os : List Opd} {env : Ev} : parS3 i j l os env = (rN os env).bind fun p => (rsF p.1).bind fun ds => match ds with
  | [d, e, f] => some (.nx, ((p.2.set i (some (fz d))).set j (some (fz e))).set l (some (fz f)))
  | _ => none := rfl
@[simp] theorem appE_def {i : Nat} {f : RE} {env : Ev} : appE i f env = if has env i = true then (match at_ env i with
  | some ⟨.list _, _⟩ => (f env).bind fun p => if p.1.n = 0 then (ownL p.2 i).bind fun ds => if ds.length < sizeLine then some (fz .none, p.2.set i (some ⟨.list (ds ++ [p.1.d]), 1⟩)) else none else none
  | _ => none) else none := rfl
@[simp] theorem forS_def {i : RI} {t : TgD} {b : RS} {env : Ev} : forS i t b env = (i env).bind fun p => loopS t b p.1 p.2 := rfl
@[simp] theorem seqI_def {f : RE} {env : Ev} : seqI f env = (f env).bind fun p => if p.1.n = 0 then (itemsD p.1.d).map fun ds => (ds, p.2) else none := rfl
@[simp] theorem lcE_def {i : RI} {t : TgD} {c : RT} {f : RE} {vs : List Nat} {env : Ev} : lcE i t c f vs env = (i env).bind fun p => if p.1.length ≤ sizeLine then (lcL t c f vs p.1 (wipeE p.2 vs)).map fun r => (⟨.list r.1, 1⟩, r.2) else none := rfl
@[simp] theorem wipeE_nil {env : Ev} : wipeE env [] = env := rfl
@[simp] theorem wipeE_cons {env : Ev} {v : Nat} {vs : List Nat} : wipeE env (v :: vs) = (wipeE env vs).set v none := rfl
@[simp] theorem items_lst {ds : List D} : itemsD (.list ds) = some ds := rfl
@[simp] theorem items_tup {ds : List D} : itemsD (.tuple ds) = some ds := rfl
/-- what follows a statement that went on -/
def After (t : RS) (Q : Fl × Ev → Prop) (r : Fl × Ev) : Prop := match r with
  | (.nx, e) => Ok (t e) Q
  | r => Q r
@[simp] theorem after_nx {t : RS} {Q : Fl × Ev → Prop} {e : Ev} : After t Q (.nx, e) ↔ Ok (t e) Q := Iff.rfl
@[simp] theorem after_rt {t : RS} {Q : Fl × Ev → Prop} {v : Val} {e : Ev} : After t Q (.rt v, e) ↔ Q (.rt v, e) := Iff.rfl
@[simp] theorem ok_seq {s t : RS} {env : Ev} {Q : Fl × Ev → Prop} : Ok (seqS s t env) Q ↔ Ok (s env) (After t Q) := by
  unfold seqS thenS
  cases h : s env with
  | none => simp
  | some r =>
    obtain ⟨f, e⟩ := r
    cases f <;> simp [After]
@[simp] theorem ok_run {n : Nat} {b : RS} {as : List Val} {Q : Val × Ev → Prop} : Ok (runB n b as) Q ↔ Ok (b (startE n as)) fun r => match r with
  | (.rt v, e) => Q (v, e)
  | (.nx, e) => Q (fz .none, e)
  | _ => False := by
  unfold runB
  cases h : b (startE n as) with
  | none => simp
  | some r =>
    obtain ⟨f, e⟩ := r
    cases f <;> simp
/-! loops -/
theorem ok_loop {t : TgD} {b : RS} {Q : Fl × Ev → Prop} (I : Nat → Ev → Prop) : ∀ {ds : List D} {env : Ev} {k : Nat} (_ : I k env) (_ : ∀ i d e, ds[i]? = some d → I (k + i) e → Ok (t d e) fun e1 => Ok (b e1) fun r => r.1 = .nx ∧ I (k + i + 1) r.2) (_ : ∀ e, I (k + ds.length) e → Q (.nx, e)), Ok (loopS t b ds env) Q
  | [], env, k, h0, _, hq => by unfold loopS; exact ok_some.mpr (hq env h0)
  | d :: ds, env, k, h0, hs, hq => by
    unfold loopS
    obtain ⟨e1, q1, ⟨f, e2⟩, q2, rfl, h1⟩ := hs 0 d env rfl h0
    rw [q1]
    dsimp only [Option.bind]
    rw [q2]
    refine ok_loop I (k := k + 1) h1 (fun i d e x h => ?_) fun e h => hq e ?_
    · have := hs (i + 1) d e x (by rw [show k + (i + 1) = k + 1 + i by omega]; exact h)
      rw [show k + (i + 1) = k + 1 + i by omega] at this
      exact this
    · rw [List.length_cons, show k + (ds.length + 1) = k + 1 + ds.length by omega]
      exact h
/-- one item after another, the ones that c takes -/
theorem lcL_map {α : Type} {t : TgD} {c : RT} {f : RE} {vs : List Nat} {W : Ev} (enc : α → D) (k : α → Bool) (g : α → D) : ∀ {xs : List α}, (∀ x ∈ xs, Ok (t (enc x) W) fun e => Ok (c e) fun p => p.1 = k x ∧ (k x = true → Ok (f p.2) fun q => q.1 = fz (g x) ∧ wipeE q.2 vs = W) ∧ (k x = false → wipeE p.2 vs = W)) → lcL t c f vs (xs.map enc) W = some ((xs.filter k).map g, W)
  | [], _ => rfl
  | x :: xs, h => by
    obtain ⟨e, q1, ⟨p, e2⟩, q2, h1, h2, h3⟩ := h x (List.mem_cons_self ..)
    have ih := lcL_map (t := t) (c := c) (f := f) (vs := vs) (W := W) enc k g (xs := xs) fun y hy => h y (List.mem_cons_of_mem _ hy)
    rw [List.map_cons]
    unfold lcL
    rw [q1]
    dsimp only [Option.bind]
    rw [q2]
    dsimp only at h1 ⊢
    subst h1
    cases hk : k x with
    | true =>
      obtain ⟨⟨v, e3⟩, q3, h4, h5⟩ := h2 hk
      dsimp only at h4 h5 q3
      subst h4
      rw [if_pos rfl, q3]
      dsimp only [Option.bind]
      rw [if_pos rfl, h5, ih, List.filter_cons_of_pos hk]
      rfl
    | false =>
      rw [if_neg (by decide), h3 hk, ih, List.filter_cons_of_neg (by rw [hk]; decide)]
theorem lcL_all {α : Type} {t : TgD} {f : RE} {vs : List Nat} {W : Ev} (enc : α → D) (g : α → D) {xs : List α} (h : ∀ x ∈ xs, Ok (t (enc x) W) fun e => Ok (f e) fun q => q.1 = fz (g x) ∧ wipeE q.2 vs = W) : lcL t yesT f vs (xs.map enc) W = some (xs.map g, W) := by
  have := lcL_map (t := t) (c := yesT) (f := f) (vs := vs) (W := W) enc (fun _ => true) g (xs := xs) fun x hx => (h x hx).imp fun e q => by
    rw [yesT_def, ok_some]
    exact ⟨rfl, fun _ => q, fun z => nomatch z⟩
  rw [this, List.filter_eq_self.mpr fun _ _ => rfl]
/-! while -/
theorem while_step {c : RT} {b : RS} {env e1 e2 : Ev} {r : Fl × Ev} (hc : c env = some (true, e1)) (hb : b e1 = some (.nx, e2)) {n : Nat} (h : whileN c b n e2 = some r) : whileN c b (n + 1) env = some r := by
  unfold whileN
  rw [hc]
  dsimp only [Option.bind]
  rw [if_pos rfl, hb]
  exact h
theorem while_end {c : RT} {b : RS} {env e1 : Ev} (hc : c env = some (false, e1)) : whileN c b 1 env = some (.nx, e1) := by
  unfold whileN
  rw [hc]
  rfl
/-- the greatest common divisor by rests, from naturals on -/
theorem while_gcd {c : RT} {b : RS} (E : Nat → Nat → Ev) (hc : ∀ x y, c (E x y) = some (decide (y ≠ 0), E x y)) (hb : ∀ x y, y ≠ 0 → b (E x y) = some (.nx, E y (x % y))) (x y : Nat) : whileS c b (E x y) = some (.nx, E (Nat.gcd x y) 0) := by
  have key : ∀ m x y : Nat, y ≤ m → ∃ n, whileN c b n (E x y) = some (.nx, E (Nat.gcd x y) 0) := by
    intro m
    induction m with
    | zero =>
      intro x y h
      have : y = 0 := by omega
      subst this
      exact ⟨1, by rw [Nat.gcd_zero_right]; exact while_end (hc x 0)⟩
    | succ m ih =>
      intro x y h
      by_cases hy : y = 0
      · subst hy
        exact ⟨1, by rw [Nat.gcd_zero_right]; exact while_end (hc x 0)⟩
      · have hlt := Nat.mod_lt x (Nat.pos_of_ne_zero hy)
        obtain ⟨n, hn⟩ := ih y (x % y) (by omega)
        have hg : Nat.gcd x y = Nat.gcd y (x % y) := by
          rw [Nat.gcd_comm x y, Nat.gcd_rec, Nat.gcd_comm]
        rw [hg]
        exact ⟨n + 1, while_step ((hc x y).trans (by rw [decide_eq_true hy])) (hb x y hy) hn⟩
  obtain ⟨n, hn⟩ := key y x y (Nat.le_refl _)
  exact whileS_eq hn
end Dn
end
section
set_option Elab.async false
set_option linter.all false
set_option maxRecDepth 100000
set_option maxHeartbeats 4000000
/-! DnRe: operations on naturals, texts of data, data that is the same -/
namespace Dn
open PySem L2
abbrev iD (n : Nat) : D := .int (n : Int)
@[simp] theorem imm_int {i : Int} : imm (.int i) = true := rfl
@[simp] theorem imm_bool {i : Bool} : imm (.bool i) = true := rfl
@[simp] theorem imm_none : imm .none = true := rfl
@[simp] theorem imm_str {i : Str} : imm (.str i) = true := rfl
@[simp] theorem imm_list {i : List D} : imm (.list i) = false := rfl
@[simp] theorem imm_tuple {ds : List D} : imm (.tuple ds) = immL ds := rfl
@[simp] theorem immL_nil : immL [] = true := rfl
@[simp] theorem immL_cons {d : D} {ds : List D} : immL (d :: ds) = (imm d && immL ds) := rfl
theorem immL_map {α : Type} {f : α → D} (h : ∀ x, imm (f x) = true) : ∀ xs : List α, immL (xs.map f) = true
  | [] => rfl
  | x :: xs => by rw [List.map_cons, immL_cons, h x, immL_map h xs]; rfl
/-! operations on ints -/
@[simp] theorem addO_int {a b : Int} : addO [.int a, .int b] = some (fz (.int (a + b))) := rfl
@[simp] theorem addO_list {a b : List D} : addO [.list a, .list b] = if a.length + b.length ≤ sizeLine then some ⟨.list (a ++ b), 1⟩ else none := rfl
@[simp] theorem addO_tuple {a b : List D} : addO [.tuple a, .tuple b] = if a.length + b.length ≤ sizeLine then some (fz (.tuple (a ++ b))) else none := rfl
@[simp] theorem subO_int {a b : Int} : subO [.int a, .int b] = some (fz (.int (a - b))) := rfl
@[simp] theorem mulTO_int {a b : Int} : mulTO [.int a, .int b] = if mulOk a b = true then some (fz (.int (a * b))) else none := rfl
@[simp] theorem mulTO_list {a : List D} {k : Int} : mulTO [.list a, .int k] = if irB 9223372036854775808 9223372036854775807 k = true ∧ a.length * k.toNat ≤ sizeLine then some ⟨.list (List.replicate k.toNat a).flatten, 1⟩ else none := rfl
theorem mulTO_tuple {a : List D} {k : Nat} (h1 : a ≠ []) (h2 : 1 ≤ k) (h3 : k ≤ 1000) (h4 : a.length ≤ 1000) : mulTO [.tuple a, .int k] = some (fz (.tuple (List.replicate k a).flatten)) := by
  unfold mulTO
  dsimp only
  split
  · rename_i h
    have : k = 1 := by omega
    subst this
    simp
  · unfold mulO
    dsimp only
    rw [if_pos ⟨by cases a with | nil => exact absurd rfl h1 | cons => rfl, by omega, irB_iff.mpr (by omega), h4⟩]
    rfl
@[simp] theorem fdivO_int {a b : Int} : fdivO [.int a, .int b] = if divOk b = true then some (fz (.int (a.fdiv b))) else none := rfl
@[simp] theorem modO_int {a b : Int} : modO [.int a, .int b] = if b ≠ 0 then some (fz (.int (a.fmod b))) else none := rfl
@[simp] theorem negO_int {a : Int} : negO [.int a] = some (fz (.int (-a))) := rfl
@[simp] theorem cmpO_int {p : Int → Int → Bool} {a b : Int} : cmpO p [.int a, .int b] = some (fz (.bool (p a b))) := rfl
@[simp] theorem absO_int {a : Int} : absO [.int a] = some (fz (.int (if a < 0 then -a else a))) := rfl
@[simp] theorem intO_int {a : Int} : intO [.int a] = some (fz (.int a)) := rfl
@[simp] theorem max2O_int {a b : Int} : max2O [.int a, .int b] = some (fz (.int (if b > a then b else a))) := rfl
@[simp] theorem min2O_int {a b : Int} : min2O [.int a, .int b] = some (fz (.int (if b < a then b else a))) := rfl
@[simp] theorem gcdO_int {a b : Int} : gcdO [.int a, .int b] = some (fz (.int ((Nat.gcd a.natAbs b.natAbs : Nat) : Int))) := rfl
@[simp] theorem lenO_list {a : List D} : lenO [.list a] = some (fz (.int a.length)) := rfl
@[simp] theorem lenO_tuple {a : List D} : lenO [.tuple a] = some (fz (.int a.length)) := rfl
@[simp] theorem tupleO_list {a : List D} : tupleO [.list a] = some (fz (.tuple a)) := rfl
@[simp] theorem tupleO_tuple {a : List D} : tupleO [.tuple a] = some (fz (.tuple a)) := rfl
@[simp] theorem listO_list {a : List D} : listO [.list a] = some ⟨.list a, 1⟩ := rfl
@[simp] theorem listO_tuple {a : List D} : listO [.tuple a] = some ⟨.list a, 1⟩ := rfl
@[simp] theorem ixO_list {a : List D} {i : Int} : ixO [.list a, .int i] = (atI a i).map fz := rfl
@[simp] theorem ixO_tuple {a : List D} {i : Int} : ixO [.tuple a, .int i] = (atI a i).map fz := rfl
@[simp] theorem tupRg1_int {n : Int} : tupRg1 [.int n] = if irB 4611686018427387904 16777216 n = true then some (fz (.tuple (rngL 0 n.toNat))) else none := rfl
@[simp] theorem lstRg1_int {n : Int} : lstRg1 [.int n] = if irB 4611686018427387904 16777216 n = true then some ⟨.list (rngL 0 n.toNat), 1⟩ else none := rfl
@[simp] theorem rng1_int {j : Int} : rng1 [.int j] = if irB 4611686018427387904 4611686018427387903 j = true then some (rngL 0 j.toNat) else none := rfl
@[simp] theorem rng2_int {i j : Int} : rng2 [.int i, .int j] = if irB 4611686018427387904 4611686018427387903 i = true ∧ irB 4611686018427387904 4611686018427387903 j = true then some (rngL i (j - i).toNat) else none := rfl
theorem rngL_0 (n : Nat) : rngL 0 n = (List.range n).map iD := by
  unfold rngL
  refine List.map_congr_left fun i _ => ?_
  rw [Int.zero_add]
@[simp] theorem tupD_eq {a : List D} : tupD a = if a.length ≤ sizeLine then some (fz (.tuple a)) else none := rfl
@[simp] theorem lstD_eq {a : List D} : lstD a = if a.length ≤ sizeLine then some ⟨.list a, 1⟩ else none := rfl
@[simp] theorem eqsO_int {a b : Int} : eqsO [.int a, .int b] = some (fz (.bool (a == b))) := by
  unfold eqsO eqO
  dsimp only
  rw [if_pos (by rfl)]
  simp only [PyData.eqv]
@[simp] theorem nesO_int {a b : Int} : nesO [.int a, .int b] = some (fz (.bool (!(a == b)))) := by
  unfold nesO neO
  dsimp only
  rw [if_pos (by rfl)]
  simp only [PyData.eqv]
@[simp] theorem eqsO_str {a b : Str} : eqsO [.str a, .str b] = some (fz (.bool (decide (a = b)))) := rfl
@[simp] theorem nesO_str {a b : Str} : nesO [.str a, .str b] = some (fz (.bool (!decide (a = b)))) := rfl
@[simp] theorem reprO_eq {d : D} : reprO [d] = if shw d = true then some (fz (.str d.shown)) else none := rfl
/-! limits -/
theorem mulOk_nat {a b : Nat} (h : a < 2 ^ 500000) (h2 : b < 2 ^ 499999) : mulOk (a : Int) (b : Int) = true := by
  unfold mulOk
  have l1 : a.log2 < 500000 := by
    by_cases z : a = 0
    · subst z; decide
    · exact (Nat.log2_lt z).mpr h
  have l2 : b.log2 < 499999 := by
    by_cases z : b = 0
    · subst z; decide
    · exact (Nat.log2_lt z).mpr h2
  simp only [Int.natAbs_natCast, Bool.or_eq_true, decide_eq_true_eq]
  omega
theorem mulOk_l {a : Nat} {b : Int} (h : a < 2 ^ 64) : mulOk (a : Int) b = true := by
  unfold mulOk
  simp only [Int.natAbs_natCast, Bool.or_eq_true, decide_eq_true_eq]
  exact .inl (.inl h)
theorem divOk_nat {b : Nat} (h0 : 0 < b) (h : b < 2 ^ 9000) : divOk (b : Int) = true := by
  unfold divOk
  have l1 : b.log2 < 9000 := (Nat.log2_lt (by omega)).mpr h
  simp only [Int.natAbs_natCast, Bool.or_eq_true, decide_eq_true_eq]
  omega
theorem fmod_nat (a b : Nat) : (a : Int).fmod (b : Int) = ((a % b : Nat) : Int) := by
  rw [Int.fmod_eq_emod_of_nonneg _ (Int.natCast_nonneg b), Int.natCast_emod]
theorem fdiv_nat (a b : Nat) : (a : Int).fdiv (b : Int) = ((a / b : Nat) : Int) := by
  rw [Int.fdiv_eq_ediv_of_nonneg _ (Int.natCast_nonneg b), Int.natCast_ediv]
theorem atI_nat' {α : Type} {xs : List α} {i : Nat} {x : α} (h : xs[i]? = some x) : atI xs (i : Int) = some x := by
  unfold atI ixN
  have hl := (List.getElem?_eq_some_iff.mp h).1
  rw [if_pos (Int.natCast_nonneg i), if_pos (by omega)]
  exact h
/-! ### texts -/
mutual
/-- ints of at most b bits, no texts -/
def sm (b : Nat) : D → Bool
  | .int i => decide (i.natAbs.log2 < b)
  | .list xs => smL b xs
  | .tuple xs => smL b xs
  | .none => true
  | .bool _ => true
  | .str _ => false
  | .dict _ => false
def smL (b : Nat) : List D → Bool
  | [] => true
  | x :: xs => sm b x && smL b xs
end
mutual
def cost (b : Nat) : D → Nat
  | .list xs => costL b xs + 3
  | .tuple xs => costL b xs + 3
  | _ => b + 6
def costL (b : Nat) : List D → Nat
  | [] => 0
  | x :: xs => cost b x + 2 + costL b xs
end
mutual
theorem sm_nd {b : Nat} : ∀ d : D, sm b d = true → nd d = true
  | .int _, _ => rfl
  | .none, _ => rfl
  | .bool _, _ => rfl
  | .list xs, h => by unfold sm at h; unfold nd; exact smL_nd xs h
  | .tuple xs, h => by unfold sm at h; unfold nd; exact smL_nd xs h
  | .str _, h => by unfold sm at h; cases h
  | .dict _, h => by unfold sm at h; cases h
theorem smL_nd {b : Nat} : ∀ ds : List D, smL b ds = true → ndL ds = true
  | [], _ => rfl
  | x :: xs, h => by
    unfold smL at h
    rw [Bool.and_eq_true] at h
    unfold ndL
    rw [sm_nd x h.1, smL_nd xs h.2]; rfl
end
mutual
theorem sm_lay {b : Nat} : ∀ d : D, sm b d = true → d.canLay0 = true
  | .int _, _ => rfl
  | .none, _ => rfl
  | .bool _, _ => rfl
  | .list xs, h => by unfold sm at h; unfold PyData.canLay0; exact smL_lay xs h
  | .tuple xs, h => by unfold sm at h; unfold PyData.canLay0; exact smL_lay xs h
  | .str _, h => by unfold sm at h; cases h
  | .dict _, h => by unfold sm at h; cases h
theorem smL_lay {b : Nat} : ∀ ds : List D, smL b ds = true → PyData.canLayAll0 ds = true
  | [], _ => rfl
  | x :: xs, h => by
    unfold smL at h
    rw [Bool.and_eq_true] at h
    unfold PyData.canLayAll0
    rw [sm_lay x h.1, smL_lay xs h.2]; rfl
end
mutual
theorem sm_showable {b : Nat} (hb : b ≤ 1920) : ∀ d : D, sm b d = true → d.showable = true
  | .int i, h => by
    unfold sm at h
    unfold PyData.showable
    have := of_decide_eq_true h
    exact decide_eq_true (by omega)
  | .none, _ => rfl
  | .bool _, _ => rfl
  | .list xs, h => by unfold sm at h; unfold PyData.showable; exact smL_showable hb xs h
  | .tuple xs, h => by unfold sm at h; unfold PyData.showable; exact smL_showable hb xs h
  | .str _, h => by unfold sm at h; cases h
  | .dict _, h => by unfold sm at h; cases h
theorem smL_showable {b : Nat} (hb : b ≤ 1920) : ∀ ds : List D, smL b ds = true → PyData.showableAll ds = true
  | [], _ => rfl
  | x :: xs, h => by
    unfold smL at h
    rw [Bool.and_eq_true] at h
    unfold PyData.showableAll
    rw [sm_showable hb x h.1, smL_showable hb xs h.2]; rfl
end
mutual
theorem sm_len {b : Nat} : ∀ d : D, sm b d = true → d.shown.length ≤ cost b d
  | .int i, h => by
    unfold sm at h
    unfold PyData.shown cost
    have h1 := of_decide_eq_true h
    have := int_text_length_le (a := i) (k := b) (by omega) h1
    have e : (Str.ofString (toString i)).length = (toString i).length := ofString_length _
    show (Str.ofString (toString i)).length ≤ b + 6
    omega
  | .none, _ => by
    unfold PyData.shown cost
    have : (Str.ofString "None").length = 4 := by rw [ofString_length]; rfl
    show (Str.ofString "None").length ≤ b + 6
    omega
  | .bool k, _ => by
    unfold PyData.shown cost
    have h1 : (Str.ofString "True").length = 4 := by rw [ofString_length]; rfl
    have h2 : (Str.ofString "False").length = 5 := by rw [ofString_length]; rfl
    cases k with
    | true => show (Str.ofString "True").length ≤ b + 6; omega
    | false => show (Str.ofString "False").length ≤ b + 6; omega
  | .list xs, h => by
    unfold sm at h
    unfold PyData.shown cost
    have h1 := listText_len_le (PyData.shownAll xs)
    have h2 := smL_len xs h
    omega
  | .tuple xs, h => by
    unfold sm at h
    unfold PyData.shown cost
    have h1 := tupleText_len_le (PyData.shownAll xs)
    have h2 := smL_len xs h
    omega
  | .str _, h => by unfold sm at h; cases h
  | .dict _, h => by unfold sm at h; cases h
theorem smL_len {b : Nat} : ∀ ds : List D, smL b ds = true → ((PyData.shownAll ds).map (·.length)).sum + 2 * (PyData.shownAll ds).length ≤ costL b ds
  | [], _ => by unfold PyData.shownAll costL; simp
  | x :: xs, h => by
    unfold smL at h
    rw [Bool.and_eq_true] at h
    unfold PyData.shownAll costL
    have h1 := sm_len x h.1
    have h2 := smL_len xs h.2
    rw [List.map_cons, List.sum_cons, List.length_cons]
    omega
end
theorem shw_of {b : Nat} {d : D} (h : sm b d = true) (hb : b ≤ 1920) (hd : d.depth ≤ 64) (hc : cost b d ≤ sizeLine) : shw d = true := by
  unfold shw
  rw [sm_nd d h, sm_showable hb d h, decide_eq_true hd, decide_eq_true (Nat.le_trans (sm_len d h) hc)]
  rfl
theorem shaped_of {b : Nat} {d : D} (h : sm b d = true) (hd : d.depth ≤ 64) : SeqAt.shaped d = true := by
  unfold SeqAt.shaped
  rw [sm_lay d h, decide_eq_true hd]
  rfl
theorem smL_map {α : Type} {b : Nat} {f : α → D} : ∀ {xs : List α}, (∀ x ∈ xs, sm b (f x) = true) → smL b (xs.map f) = true
  | [], _ => rfl
  | x :: xs, h => by
    rw [List.map_cons]; unfold smL
    rw [h x (List.mem_cons_self ..), smL_map fun y hy => h y (List.mem_cons_of_mem _ hy)]; rfl
theorem costL_map {α : Type} {b c : Nat} {f : α → D} : ∀ {xs : List α}, (∀ x ∈ xs, cost b (f x) ≤ c) → costL b (xs.map f) ≤ (c + 2) * xs.length
  | [], _ => by simp [costL]
  | x :: xs, h => by
    rw [List.map_cons]; unfold costL
    have h1 := h x (List.mem_cons_self ..)
    have h2 := costL_map (b := b) (c := c) (f := f) (xs := xs) fun y hy => h y (List.mem_cons_of_mem _ hy)
    rw [List.length_cons, Nat.mul_succ]
    omega
theorem depthL_map {α : Type} {c : Nat} {f : α → D} : ∀ {xs : List α}, (∀ x ∈ xs, (f x).depth ≤ c) → PyData.depthAll (xs.map f) ≤ c
  | [], _ => by simp [PyData.depthAll]
  | x :: xs, h => by
    rw [List.map_cons]; unfold PyData.depthAll
    have h1 := h x (List.mem_cons_self ..)
    have h2 := depthL_map (c := c) (f := f) (xs := xs) fun y hy => h y (List.mem_cons_of_mem _ hy)
    omega
/-! ### the same data -/
theorem eqvL_map {α : Type} [DecidableEq α] {f : α → D} (hf : ∀ x y, PyData.eqv (f x) (f y) = decide (x = y)) : ∀ xs ys : List α, PyData.eqvAll (xs.map f) (ys.map f) = decide (xs = ys)
  | [], [] => rfl
  | [], y :: ys => rfl
  | x :: xs, [] => rfl
  | x :: xs, y :: ys => by
    rw [List.map_cons, List.map_cons]
    unfold PyData.eqvAll
    rw [hf, eqvL_map hf xs ys]
    by_cases h1 : x = y <;> by_cases h2 : xs = ys <;> simp [h1, h2]
theorem eqv_nat (x y : Nat) : PyData.eqv (iD x) (iD y) = decide (x = y) := by
  unfold PyData.eqv
  by_cases h : x = y
  · subst h; simp
  · simp [h]
    omega
/-! ### naturals -/
theorem nD_def (n : Nat) : nD n = .int (n : Int) := rfl
@[simp] theorem int_zero : PyData.int 0 = nD 0 := rfl
@[simp] theorem int_one : PyData.int 1 = nD 1 := rfl
@[simp] theorem int_lit {n : Nat} : PyData.int (@OfNat.ofNat Int n _) = nD (OfNat.ofNat n) := rfl
@[simp] theorem imm_nD {n : Nat} : imm (nD n) = true := rfl
@[simp] theorem nD_inj {a b : Nat} : nD a = nD b ↔ a = b := by
  unfold nD
  constructor
  · intro h; injection h with h; omega
  · intro h; rw [h]
@[simp] theorem addO_nD {a b : Nat} : addO [nD a, nD b] = some (fz (nD (a + b))) := rfl
theorem subO_nD {a b : Nat} (h : b ≤ a) : subO [nD a, nD b] = some (fz (nD (a - b))) := by
  unfold nD
  rw [subO_int, Int.natCast_sub h]
/-- the limits, of naturals -/
def mulOkN (a b : Nat) : Bool := mulOk (a : Int) (b : Int)
def divOkN (b : Nat) : Bool := divOk (b : Int)
theorem mulOkN_of {a b j k : Nat} (h : a < 2 ^ j) (h2 : b < 2 ^ k) (hj : j ≤ 400000) (hk : k ≤ 400000) : mulOkN a b = true :=
  mulOk_nat (Nat.lt_of_lt_of_le h (Nat.pow_le_pow_right (by decide) (Nat.le_trans hj (by decide)))) (Nat.lt_of_lt_of_le h2 (Nat.pow_le_pow_right (by decide) (Nat.le_trans hk (by decide))))
theorem divOkN_of {b k : Nat} (h0 : 0 < b) (h : b < 2 ^ k) (hk : k ≤ 9000) : divOkN b = true := divOk_nat h0 (Nat.lt_of_lt_of_le h (Nat.pow_le_pow_right (by decide) hk))
@[simp] theorem mulTO_nD {a b : Nat} : mulTO [nD a, nD b] = if mulOkN a b = true then some (fz (nD (a * b))) else none := rfl
def rgS (n : Nat) : Bool := Nat.ble n 16777216
def rg62 (n : Nat) : Bool := Nat.ble n 4611686018427387903
def rg63 (n : Nat) : Bool := Nat.ble n 9223372036854775807
theorem rgS_of {n : Nat} (h : n ≤ 100000) : rgS n = true := Nat.ble_eq.mpr (Nat.le_trans h (Nat.le_of_ble_eq_true rfl))
theorem rg62_of {n : Nat} (h : n ≤ 100000) : rg62 n = true := Nat.ble_eq.mpr (Nat.le_trans h (Nat.le_of_ble_eq_true rfl))
theorem rg63_of {n : Nat} (h : n ≤ 100000) : rg63 n = true := Nat.ble_eq.mpr (Nat.le_trans h (Nat.le_of_ble_eq_true rfl))
@[simp] theorem mulTO_listN {a : List D} {k : Nat} : mulTO [.list a, nD k] = if rg63 k = true ∧ a.length * k ≤ sizeLine then some ⟨.list (List.replicate k a).flatten, 1⟩ else none := rfl
theorem mulTO_tupN {a : List D} {k : Nat} (h1 : a ≠ []) (h2 : 1 ≤ k) (h3 : k ≤ 1000) (h4 : a.length ≤ 1000) : mulTO [.tuple a, nD k] = some (fz (.tuple (List.replicate k a).flatten)) := mulTO_tuple h1 h2 h3 h4
@[simp] theorem fdivO_nD {a b : Nat} : fdivO [nD a, nD b] = if divOkN b = true then some (fz (nD (a / b))) else none := by
  unfold nD divOkN
  rw [fdivO_int, fdiv_nat]
@[simp] theorem modO_nD {a b : Nat} : modO [nD a, nD b] = if b ≠ 0 then some (fz (nD (a % b))) else none := by
  unfold nD
  rw [modO_int, fmod_nat]
  by_cases h : b = 0
  · subst h; rfl
  · rw [if_pos h, if_pos (by omega)]
@[simp] theorem ltO_nD {a b : Nat} : cmpO (fun i j => decide (i < j)) [nD a, nD b] = some (fz (.bool (decide (a < b)))) := by
  unfold nD
  rw [cmpO_int]
  simp
@[simp] theorem leO_nD {a b : Nat} : cmpO (fun i j => decide (i ≤ j)) [nD a, nD b] = some (fz (.bool (decide (a ≤ b)))) := by
  unfold nD
  rw [cmpO_int]
  simp
@[simp] theorem gtO_nD {a b : Nat} : cmpO (fun i j => decide (j < i)) [nD a, nD b] = some (fz (.bool (decide (b < a)))) := by
  unfold nD
  rw [cmpO_int]
  simp
@[simp] theorem geO_nD {a b : Nat} : cmpO (fun i j => decide (j ≤ i)) [nD a, nD b] = some (fz (.bool (decide (b ≤ a)))) := by
  unfold nD
  rw [cmpO_int]
  simp
@[simp] theorem eqsO_nD {a b : Nat} : eqsO [nD a, nD b] = some (fz (.bool (decide (a = b)))) := by
  unfold nD
  rw [eqsO_int]
  by_cases h : a = b
  · subst h; simp
  · simp [h]; omega
@[simp] theorem nesO_nD {a b : Nat} : nesO [nD a, nD b] = some (fz (.bool (!decide (a = b)))) := by
  unfold nD
  rw [nesO_int]
  by_cases h : a = b
  · subst h; simp
  · simp [h]; omega
@[simp] theorem max2O_nD {a b : Nat} : max2O [nD a, nD b] = some (fz (nD (max a b))) := by
  unfold nD
  rw [max2O_int]
  split
  · rw [Nat.max_eq_right (by omega)]
  · rw [Nat.max_eq_left (by omega)]
@[simp] theorem min2O_nD {a b : Nat} : min2O [nD a, nD b] = some (fz (nD (min a b))) := by
  unfold nD
  rw [min2O_int]
  split
  · rw [Nat.min_eq_right (by omega)]
  · rw [Nat.min_eq_left (by omega)]
@[simp] theorem absO_nD {a : Nat} : absO [nD a] = some (fz (nD a)) := by
  unfold nD
  rw [absO_int, if_neg (by omega)]
@[simp] theorem intO_nD {a : Nat} : intO [nD a] = some (fz (nD a)) := rfl
@[simp] theorem gcdO_nD {a b : Nat} : gcdO [nD a, nD b] = some (fz (nD (Nat.gcd a b))) := by
  unfold nD
  rw [gcdO_int, Int.natAbs_natCast, Int.natAbs_natCast]
@[simp high] theorem lenO_listN {a : List D} : lenO [.list a] = some (fz (nD a.length)) := rfl
@[simp high] theorem lenO_tupN {a : List D} : lenO [.tuple a] = some (fz (nD a.length)) := rfl
theorem atI_nat2 {α : Type} {xs : List α} {i : Nat} : atI xs (i : Int) = xs[i]? := by
  unfold atI ixN
  rw [if_pos (Int.natCast_nonneg i)]
  split
  · rfl
  · rw [List.getElem?_eq_none (by omega)]; rfl
@[simp] theorem ixO_listN {a : List D} {i : Nat} : ixO [.list a, nD i] = (a[i]?).map fz := by
  unfold nD
  rw [ixO_list, atI_nat2]
@[simp] theorem ixO_tupN {a : List D} {i : Nat} : ixO [.tuple a, nD i] = (a[i]?).map fz := by
  unfold nD
  rw [ixO_tuple, atI_nat2]
@[simp] theorem tupRg1_nD {n : Nat} : tupRg1 [nD n] = if rgS n = true then some (fz (.tuple ((List.range n).map nD))) else none := by
  show (if rgS n = true then some (fz (.tuple (rngL 0 n))) else none) = _
  rw [rngL_0]; rfl
@[simp] theorem lstRg1_nD {n : Nat} : lstRg1 [nD n] = if rgS n = true then some ⟨.list ((List.range n).map nD), 1⟩ else none := by
  show (if rgS n = true then some (⟨.list (rngL 0 n), 1⟩ : Val) else none) = _
  rw [rngL_0]; rfl
@[simp] theorem rng1_nD {n : Nat} : rng1 [nD n] = if rg62 n = true then some ((List.range n).map nD) else none := by
  show (if rg62 n = true then some (rngL 0 n) else none) = _
  rw [rngL_0]; rfl
theorem rngL_nat (i n : Nat) : rngL (i : Int) n = (List.range' i n).map nD := by
  unfold rngL
  rw [List.range'_eq_map_range, List.map_map]
  refine List.map_congr_left fun k _ => ?_
  show PyData.int _ = PyData.int _
  rw [Int.natCast_add]
@[simp] theorem rng2_nD {i j : Nat} : rng2 [nD i, nD j] = if rg62 i = true ∧ rg62 j = true then some ((List.range' i (j - i)).map nD) else none := by
  show (if rg62 i = true ∧ rg62 j = true then some (rngL (i : Int) ((j : Int) - (i : Int)).toNat) else none) = _
  have e : ((j : Int) - (i : Int)).toNat = j - i := by omega
  rw [e, rngL_nat]
@[simp] theorem sm_nD {b n : Nat} : sm b (nD n) = decide (n.log2 < b) := by
  unfold nD sm
  rw [Int.natAbs_natCast]
@[simp] theorem depth_nD {n : Nat} : (nD n).depth = 0 := by unfold nD PyData.depth; rfl
@[simp] theorem cost_nD {b n : Nat} : cost b (nD n) = b + 6 := by unfold nD cost; rfl
@[simp] theorem eqv_nD {a b : Nat} : PyData.eqv (nD a) (nD b) = decide (a = b) := eqv_nat a b
theorem eqsO_of {x y : D} {b c : Nat} (h1 : sm b x = true) (h2 : sm c y = true) (d1 : x.depth ≤ 64) (d2 : y.depth ≤ 64) : eqsO [x, y] = some (fz (.bool (PyData.eqv x y))) := by
  have e : eqsO [x, y] = eqO [x, y] := by
    unfold eqsO
    cases x with
    | str s => unfold sm at h1; cases h1
    | _ => rfl
  rw [e]
  unfold eqO
  dsimp only
  rw [if_pos (by rw [shaped_of h1 d1, shaped_of h2 d2]; rfl)]
theorem nesO_of {x y : D} {b c : Nat} (h1 : sm b x = true) (h2 : sm c y = true) (d1 : x.depth ≤ 64) (d2 : y.depth ≤ 64) : nesO [x, y] = some (fz (.bool (!PyData.eqv x y))) := by
  have e : nesO [x, y] = neO [x, y] := by
    unfold nesO
    cases x with
    | str s => unfold sm at h1; cases h1
    | _ => rfl
  rw [e]
  unfold neO
  dsimp only
  rw [if_pos (by rw [shaped_of h1 d1, shaped_of h2 d2]; rfl)]
end Dn
end
section
set_option Elab.async false
set_option linter.all false
set_option maxRecDepth 100000
set_option maxHeartbeats 4000000
/-! DnL: more rules: t[::-1] of lists and tuples, gcd as math has it, xs.index -/
namespace DnR
open PySem PyProof.Rows HT
section
variable {prog : Program} {w : World} {A : Around} {E : Value → Shared → Prop} {s : Shared}
theorem adjust_rev (n : Nat) : Builtin.Slice.sliceAdjust none none (-1) (n : Int) = ((n : Int) - 1, -1) := rfl
theorem places_rev (n : Nat) : Builtin.Slice.slicePlaces ((n : Int) - 1) (-1) (-1) = n := by
  unfold Builtin.Slice.slicePlaces
  rw [if_neg (by decide)]
  by_cases h : 0 < n
  · rw [if_pos (by omega)]
    have e : ((n : Int) - 1 - -1 - 1) / (- -1) = (n : Int) - 1 := by
      show ((n : Int) - 1 - -1 - 1) / 1 = _
      rw [Int.ediv_one]; omega
    rw [e]; omega
  · rw [if_neg (by omega)]
    have : n = 0 := by omega
    subst this; rfl
theorem pick_rev (xs : Array Value) : ((List.range xs.size).filterMap fun (k : Nat) => xs[(((xs.size : Nat) : Int) - 1 + (k : Int) * -1).toNat]?).toArray = xs.toList.reverse.toArray := by
  congr 1
  have e : ∀ k ∈ List.range xs.size, xs[(((xs.size : Nat) : Int) - 1 + (k : Int) * -1).toNat]? = xs.toList.reverse[k]? := fun k hk => by
    have hk := List.mem_range.mp hk
    have e1 : (((xs.size : Nat) : Int) - 1 + (k : Int) * -1).toNat = xs.size - 1 - k := by omega
    rw [e1, List.getElem?_reverse (by simpa using hk)]
    simp
  have key : ∀ l : List Value, (List.range l.length).filterMap (fun k => l[k]?) = l := fun l => by
    induction l with
    | nil => rfl
    | cons a l ih =>
      rw [List.length_cons, List.range_succ_eq_map, List.filterMap_cons]
      show a :: _ = _
      rw [List.filterMap_map]
      congr 1
  have e2 : (List.range xs.size).filterMap (fun (k : Nat) => xs[(((xs.size : Nat) : Int) - 1 + (k : Int) * -1).toNat]?) = (List.range xs.toList.reverse.length).filterMap (fun k => xs.toList.reverse[k]?) := by
    have hl : xs.toList.reverse.length = xs.size := by simp
    rw [hl]
    have cg : ∀ (l : List Nat) (f g : Nat → Option Value), (∀ k ∈ l, f k = g k) → l.filterMap f = l.filterMap g := fun l f g hfg => by
      induction l with
      | nil => rfl
      | cons a l ih =>
        rw [List.filterMap_cons, List.filterMap_cons, hfg a (List.mem_cons_self ..), ih fun k hk => hfg k (List.mem_cons_of_mem _ hk)]
    exact cg _ _ _ e
  rw [e2, key]
theorem applied_rev {sl : Addr} {vl vu vs : Value} {n : Nat} {Q : Int × Int × Nat → Shared → Prop} (hs : s.heap.IsSliceOf sl vl vu vs) (pl : IsPart vl none) (pu : IsPart vu none) (ps : IsPart vs (some (-1)))
    (h : Q ((n : Int) - 1, -1, n) s) : wpAny (model prog w) A (Builtin.Slice.sliceApplied (.ref sl) (pure (n : Int))) Q E s := by
  obtain ⟨ob, hob, _, hdb⟩ := id hs
  unfold Builtin.Slice.sliceApplied Builtin.Slice.sliceFields
  refine wpAny_bind (wpAny_bind (wpAny_field hob hdb (x := vl) rfl (wpAny_bind (wpAny_field hob hdb (x := vu) rfl (wpAny_bind (wpAny_field hob hdb (x := vs) rfl (wpAny_pure ?_)))))))
  refine wpAny_bind (slicePart_ ps ?_)
  show wpAny _ _ (if ((-1 : Int) == 0) = true then _ else _) _ _ s
  rw [if_neg (by decide)]
  refine wpAny_bind (slicePart_ pl (wpAny_bind (slicePart_ pu (wpAny_bind (wpAny_pure ?_)))))
  show wpAny _ _ (match Builtin.Slice.sliceAdjust none none (-1) (n : Int) with | (a, b) => pure (a, (-1 : Int), Builtin.Slice.slicePlaces a b (-1))) _ _ s
  rw [adjust_rev]
  show wpAny _ _ (pure ((n : Int) - 1, (-1 : Int), Builtin.Slice.slicePlaces ((n : Int) - 1) (-1) (-1))) _ _ s
  rw [places_rev]
  exact wpAny_pure h
theorem item_rev {t sl : Addr} {items : Array Value} {vl vu vs : Value} {Q : Value → Shared → Prop} (ht : IsTup s.heap t items) (hs : s.heap.IsSliceOf sl vl vu vs) (pl : IsPart vl none) (pu : IsPart vu none) (ps : IsPart vs (some (-1)))
    (h : Q (.ref s.heap.objs.size) { s with heap := s.heap.push { cls := .type "tuple", data := .seq items.toList.reverse.toArray } }) (hz : items.size ≤ sizeLine) : wpAny (model prog w) A (getItem (.ref t) (.ref sl)) Q E s := by
  have ok : sizeOk (.seq items.toList.reverse.toArray) := by
    show items.toList.reverse.toArray.size ≤ sizeLine
    rw [List.size_toArray, List.length_reverse, Array.length_toList]; exact hz
  obtain ⟨ob, hob, hcb, hdb⟩ := id hs
  have tsl : s.TypeIs (.ref sl) "slice" := ⟨ob, hob, hcb⟩
  unfold getItem
  try with_reducible refine wpAny_holding ?_
  first | refine wpAny_bind (wpAny_pure ?_) | skip
  refine wpAny_bind (wpAny_sequenceKey ht.typeIs (by decide) (wpAny_bind (wpAny_callSpecial?_slot (name := Str.ofString "__getitem__") ht.typeIs PyProof.Rows.slot_tuple_getitem (wpAny_call_entry PyProof.Rows.slot_tuple_getitem ht.typeIs entry_tuple_getitem ?_ (args_tuple_getitem _ _)))))
  show wpAny _ _ (Builtin.Tuple.tupleItemsOf (.ref t) >>= _) _ _ s
  refine wpAny_bind (tupleItemsOf_ ht (wpAny_bind (wpAny_typeOf tsl ?_)))
  rw [if_pos (by decide)]
  refine wpAny_bind (applied_rev hs pl pu ps ?_)
  have no : ¬ ((((items.size : Nat) : Int) - 1 == 0 && (-1 : Int) == 1 && items.size == items.size) = true) := by
    intro q
    rw [Bool.and_eq_true, Bool.and_eq_true] at q
    exact absurd q.1.2 (by decide)
  show wpAny _ _ (if (((items.size : Nat) : Int) - 1 == 0 && (-1 : Int) == 1 && items.size == items.size) = true then _ else _) _ _ s
  rw [if_neg no, pick_rev]
  first
    | exact wpAny_bind (m := Builtin.Tuple.tupleExact _) (wpAny_newObj_type (wpAny_pure ⟨_, rfl, wpAny_pure h⟩) ok)
    | exact wpAny_bind (wpAny_bind (m := Builtin.Tuple.tupleExact _) (wpAny_newObj_type (wpAny_pure (wpAny_pure ⟨_, rfl, wpAny_pure h⟩)) ok))
    | exact wpAny_bind (wpAny_bind (m := Builtin.Tuple.tupleExact _) (wpAny_newObj_type (wpAny_pure ⟨_, rfl, wpAny_pure h⟩) ok))
end
end DnR
namespace Dn
open PySem L2 PySem.Spec
open PyProof.Rows hiding St
variable {X : Cx} {J : List Nat} {σ0 : St}
def rRevT (K : PySem.W.Frag) (x : V) (H1 : Hp) (Q : VK) : Prop := ∃ a xs, x = .ref a ∧ SqT K H1 a xs ∧ ∀ p, H1 p = none → Q (.ref p) (upd H1 p (.tup xs.reverse))
theorem pe_revT {e : Expr} {te : TE} {k : Nat} {p1 p2 p3 pos : Pos} (he : PE X e te) : PE X (.Subscript e (.Slice none none (some (.UnaryOp .USub (.Constant (.int 1) k p1) p2)) p3) pos) (fun σ H Q => te σ H fun x H1 => rRevT X.K x H1 Q) := by
  refine ⟨fun pins s σ H Q I h => Subscript_ (thn (he.run pins s σ H _ I h) fun v s1 ⟨x, H1, I1, r1, q1⟩ => ?_)⟩
  obtain ⟨a, xs, rfl, hx, q⟩ := q1
  cases r1
  have hst : PO X (some (.UnaryOp .USub (.Constant (.int 1) k p1) p2)) (tPart (tUn (rU fun i => .int (-i)) (tC (.int 1)))) := po_some (pe_un un_neg pe_int)
  refine wpAny_Slice (thn (po_none.run pins s1 σ H1 (fun o Hx => o = none ∧ Hx = H1) I1 ⟨rfl, rfl⟩) fun vl s2 ⟨l, H2, I2, pl, el, e2⟩ => thn (po_none.run pins s2 σ H2 (fun o Hx => o = none ∧ Hx = H2) I2 ⟨rfl, rfl⟩) fun vu s3 ⟨u, H3, I3, pu, eu, e3⟩ => thn (hst.run pins s3 σ H3 (fun o Hx => o = some (-1) ∧ Hx = H3) I3 ⟨1, rfl, -1, rfl, rfl, rfl⟩) fun vs s4 ⟨o, H4, I4, ps, eo, e4⟩ => ?_)
  subst el e2 eu e3 eo e4
  have I5 : Inv X pins σ H4 { s4 with heap := s4.heap.push { cls := .type "slice", data := .fields #[vl, vu, vs] } } := I4.kept (t' := s4.toks) fun b ob q => Heap.get?_push_of_some _ q
  obtain ⟨its, r, ht, hz⟩ := I5.tuple hx
  have hlen : its.toArray.size = xs.length := by rw [List.size_toArray]; exact r.length.symm
  show wpAny (model X.prog X.w) X.A (subscriptTail e (.Slice none none (some (.UnaryOp .USub (.Constant (.int 1) k p1) p2)) p3) (.ref a) (.ref s4.heap.objs.size)) (EP X pins σ Q) X.xe { s4 with heap := s4.heap.push { cls := .type "slice", data := .fields #[vl, vu, vs] } }
  refine tail_any (ops := [.ref a, .ref s4.heap.objs.size]) ht.typeIs (PyProof.Rows.slot_tuple_getitem.lookup) ?_ (by with_unfolding_all rfl)
  refine DnR.item_rev ht (Heap.IsSliceOf.new _ vl vu vs) pl pu ps ?_ (by rw [hlen]; exact hz)
  refine ⟨.ref _, _, I5.laid (t' := s4.toks) (o := .tup xs.reverse) (fun b ob q => Heap.get?_push_of_some _ q) (Nat.le_refl _) ?_, rfl, q _ (I5.hok.fresh (Nat.le_refl _))⟩
  exact ⟨by rw [List.length_reverse]; exact hz, _, r.reverse, IsTup.new _ _⟩
def revO : List D → Option Val
  | [.list ds] => some ⟨.list ds.reverse, 1⟩
  | [.tuple ds] => some (fz (.tuple ds.reverse))
  | _ => none
theorem _root_.L2.PE.orr {e : Expr} {t u : TE} (h : PE X e t) (h' : PE X e u) : PE X e (fun σ H Q => t σ H Q ∨ u σ H Q) := ⟨fun pins s σ H Q I hw => hw.elim (fun z => h.run pins s σ H Q I z) fun z => h'.run pins s σ H Q I z⟩
theorem rd_or {K : PySem.W.Frag} {σ : L2.St} {H : Hp} {Q : VK} {f g h : RE} (hh : ∀ env r, f env = some r → g env = some r ∨ h env = some r) (w : rdE K J σ0 f σ H Q) : rdE K J σ0 g σ H Q ∨ rdE K J σ0 h σ H Q := by
  obtain ⟨F, env, O, s, p⟩ := w
  cases q : f env with
  | none => rw [q] at p; exact p.elim
  | some r =>
    rw [q] at p
    rcases hh env r q with e | e
    · exact .inl ⟨F, env, O, s, by rw [e]; exact p⟩
    · exact .inr ⟨F, env, O, s, by rw [e]; exact p⟩
/-- an operation that is one of two -/
theorem opN_or {o p q : List D → Option Val} (h : ∀ ds r, o ds = some r → p ds = some r ∨ q ds = some r) {os : List Opd} {env : Ev} {r : Val × Ev} (e : opN o os env = some r) : opN p os env = some r ∨ opN q os env = some r := by
  unfold opN at e ⊢
  cases q1 : rN os env with
  | none => rw [q1] at e; cases e
  | some a =>
    rw [q1] at e
    dsimp only [Option.bind] at e ⊢
    cases q2 : rsN a.1 a.2 with
    | none => rw [q2] at e; cases e
    | some ds =>
      rw [q2] at e
      dsimp only at e ⊢
      cases q3 : o ds with
      | none => rw [q3] at e; cases e
      | some v =>
        rw [q3] at e
        rcases h ds v q3 with z | z
        · exact .inl (by rw [z]; exact e)
        · exact .inr (by rw [z]; exact e)
def revLO : List D → Option Val
  | [.list ds] => some ⟨.list ds.reverse, 1⟩
  | _ => none
def revTO : List D → Option Val
  | [.tuple ds] => some (fz (.tuple ds.reverse))
  | _ => none
variable {oa ob : Opd} {a b : Expr}
theorem e_rev {k : Nat} {p1 p2 p3 pos : Pos} (ha : PE X a (tO X.K J σ0 oa)) : PE X (.Subscript a (.Slice none none (some (.UnaryOp .USub (.Constant (.int 1) k p1) p2)) p3) pos) (rdE X.K J σ0 (opN revO [oa])) :=
  ((pe_revL ha).orr (pe_revT ha)).conseq fun σ H Q h => by
    have h := rd_or (g := opN revLO [oa]) (h := opN revTO [oa]) (fun env r e => opN_or (fun ds r e => by
      unfold revO at e
      split at e
      · exact .inl e
      · exact .inr e
      · cases e) e) h
    refine h.imp (fun h => ?_) fun h => ?_
    · refine (op_run (r := fun vs H1 Q => match vs with | [x] => ∃ a xs, x = .ref a ∧ SqL X.K H1 a xs ∧ ∀ p, H1 p = none → Q (.ref p) (upd H1 p (.lst xs.reverse)) | _ => False) ?_ h : tCB _ (tOs X.K J σ0 [oa]) σ H Q)
      intro F H xs ds res Q al hv e h
      unfold revLO at e
      split at e
      · cases e
        obtain ⟨x, rfl, h1⟩ := hv.one
        obtain ⟨a, us, rfl, e1, t1⟩ := h1.list
        exact ⟨_, _, rfl, .inl (.inl e1), h.lst t1.rev al⟩
      · cases e
    · refine (op_run (r := fun vs H1 Q => match vs with | [x] => rRevT X.K x H1 Q | _ => False) ?_ h : tCB _ (tOs X.K J σ0 [oa]) σ H Q)
      intro F H xs ds res Q al hv e h
      unfold revTO at e
      split at e
      · cases e
        obtain ⟨x, rfl, h1⟩ := hv.one
        obtain ⟨a, us, rfl, e1, t1, f1⟩ := h1.tup
        exact ⟨_, _, rfl, e1, fun p hp => h.tup t1.rev p hp⟩
      · cases e
/-! ### methods of a list in a slot -/
def methL (i : Nat) (o : List D → Option Val) (os : List Opd) : RE := fun env => match at_ env i with
  | some ⟨.list _, _⟩ => opN o (.nm i :: os) env
  | _ => none
variable {e o : Expr} {es : List Expr} {os : List Opd} {name : Str} {apos cpos : Pos} {id : String} {r : V → List V → Hp → VK → Prop}
theorem e_methL {i : Nat} {f : List D → Option Val} (slot : Slot "list" name id) (hty : typeOf (.builtin id) = pure (.type "method_descriptor")) (hm : MtR X id r) (hs : SemN X (fun vs H Q => match vs with | x :: xs => r x xs H Q | [] => False) f) (ho : PE X o (tVar i)) (ha : PA X (e :: es) (tOs X.K J σ0 os))
    (hbase : attributeBase o name X.env (eval o X.env) = eval o X.env := by rfl)
    (hfew : ((backTo cpos (starEach (e :: es) X.env)).all (fun x => !x.1) && (backToKw cpos (keywordEach [] X.env)).all (fun x => x.1.isSome) && decide ((e :: es).length + ([] : List Keyword).length + (if ([] : List Keyword).isEmpty then 0 else 1) < 30)) = true := by rfl)
    (hline : (apos.endLine == cpos.line) = true := by rfl) (hst : starEach (e :: es) X.env = (false, eval e X.env) :: starEach es X.env := by rfl) (hplain : (backTo cpos (starEach es X.env)).any (·.1) = false := by rfl) :
    PE X (.Call (.Attribute o name apos) (e :: es) [] cpos) (rdE X.K J σ0 (methL i f os)) :=
  (pe_bm PySem.F.plainAttrs_list slot hty hm ho ha hbase hfew hline hst hplain).conseq fun σ H Q ⟨F, env, O, s, h⟩ => by
    unfold methL at h
    split at h
    · rename_i ds0 n0 q0
      obtain ⟨a0, xs0, ex0, eh0⟩ := list_slot s q0
      have w : tCB _ (tOs X.K J σ0 (.nm i :: os)) σ H Q := op_run hs ⟨F, env, O, s, h⟩
      obtain ⟨x, ex, w⟩ := w
      rw [ex0] at ex
      cases ex
      exact ⟨_, ex0, .inl ⟨rfl, _, .inl (.inl eh0)⟩, w⟩
    · exact h.elim
def indexO : List D → Option Val
  | [.list ds, d] => if SeqAt.shaped (.list ds) && SeqAt.shaped d then (ds.findIdx? fun z => PyData.eqv z d).map fun j => fz (nD j) else none
  | _ => none
theorem sem_index {X : Cx} : SemN X (fun vs H Q => match vs with | x :: xs => rIndexD X.K x xs H Q | [] => False) indexO := by
  intro F H xs ds res Q al hv e h
  unfold indexO at e
  split at e
  · rename_i ds d
    split at e
    · rename_i hs
      rw [Bool.and_eq_true] at hs
      cases q : ds.findIdx? fun z => PyData.eqv z d with
      | none => rw [q] at e; cases e
      | some j =>
        rw [q] at e
        cases e
        obtain ⟨x, y, rfl, h1, h2⟩ := hv.two
        obtain ⟨a, us, rfl, e1, t1⟩ := h1.list
        obtain ⟨hj, hp, hn⟩ := List.findIdx?_eq_some_iff_getElem.mp q
        exact ⟨a, y, d, ds, j, ds[j], rfl, rfl, dp_of hs.1 h1, dp_of hs.2 h2, hs.1, hs.2, List.getElem?_eq_getElem hj, hp, fun m z hm hz => by
          have hml : m < ds.length := by omega
          rw [List.getElem?_eq_getElem hml] at hz
          cases hz
          have := hn m hm
          simpa using this, h.int⟩
    · cases e
  · cases e
/-- xs.index(d) -/
theorem e_index {i : Nat} {j : Nat} (hr : RoomG j X.A) (ho : PE X o (tVar i)) (ha : PA X (e :: es) (tOs X.K J σ0 os))
    (hbase : attributeBase o "index" X.env (eval o X.env) = eval o X.env := by rfl)
    (hfew : ((backTo cpos (starEach (e :: es) X.env)).all (fun x => !x.1) && (backToKw cpos (keywordEach [] X.env)).all (fun x => x.1.isSome) && decide ((e :: es).length + ([] : List Keyword).length + (if ([] : List Keyword).isEmpty then 0 else 1) < 30)) = true := by rfl)
    (hline : (apos.endLine == cpos.line) = true := by rfl) (hst : starEach (e :: es) X.env = (false, eval e X.env) :: starEach es X.env := by rfl) (hplain : (backTo cpos (starEach es X.env)).any (·.1) = false := by rfl) :
    PE X (.Call (.Attribute o "index" apos) (e :: es) [] cpos) (rdE X.K J σ0 (methL i indexO os)) :=
  e_methL PySem.F.slot_list_index PySem.F.type_list_index (mt_indexD hr.u65) sem_index ho ha hbase hfew hline hst hplain
/-! ### gcd as math has it -/
theorem e_gcd {p : Pos} {x : Str} (hg : Gl X x) (hm : X.mg x = some (.builtin "math.gcd")) (ha : PA X (e :: es) (tOs X.K J σ0 os)) (hdb : (x == ("__debug__" : Str)) = false := by decide)
    (he : starEach (e :: es) X.env = (false, eval e X.env) :: starEach es X.env := by rfl) (hpl : (backTo cpos (starEach es X.env)).any (·.1) = false := by rfl) : PE X (.Call (.Name x p) (e :: es) [] cpos) (rdE X.K J σ0 (opN gcdO os)) :=
  e_op (pe_callBfun cr_gcd hg hm ha hdb he hpl) sem_gcd
/-! ### a, b = x, y: the values as they are owned -/
def exV : List (Sum Nat Val) → Option (List Val)
  | [] => some []
  | .inl _ :: _ => none
  | .inr v :: ps => (exV ps).map fun vs => v :: vs
def parV (i j : Nat) (os : List Opd) : RS := fun env => (rN os env).bind fun p => (exV p.1).bind fun ds => match ds with
  | [d, e] => some (.nx, (p.2.set i (some d)).set j (some e))
  | _ => none
def parV3 (i j l : Nat) (os : List Opd) : RS := fun env => (rN os env).bind fun p => (exV p.1).bind fun ds => match ds with
  | [d, e, f] => some (.nx, ((p.2.set i (some d)).set j (some e)).set l (some f))
  | _ => none
inductive ExAt (K : PySem.W.Frag) (F : AS) (H : Hp) : List V → List Val → AS → Prop
  | nil {R : AS} : (∀ a, ¬ R a) → ExAt K F H [] [] R
  | cons {x : V} {v : Val} {xs : List V} {vs : List Val} {R R1 R2 : AS} : Ow K F H v.n x v.d R1 → ExAt K F H xs vs R2 → (∀ a, R1 a → R2 a → False) → (∀ a, R a ↔ (R1 a ∨ R2 a)) → ExAt K F H (x :: xs) (v :: vs) R
theorem exV_at {K : PySem.W.Frag} {F : AS} {H : Hp} {σ : L2.St} : ∀ {xs : List V} {ps : List (Sum Nat Val)} {vs : List Val} {R : AS}, OpsAt K F H σ xs ps R → exV ps = some vs → ExAt K F H xs vs R
  | _, _, _, _, .nil h, e => by cases e; exact .nil h
  | _, .inl _ :: _, _, _, .cons _ _ _ _, e => by cases e
  | _, .inr v :: ps, _, _, .cons h t d hR, e => by
    unfold exV at e
    cases q : exV ps with
    | none => rw [q] at e; cases e
    | some ds =>
      rw [q] at e; cases e
      exact .cons h (exV_at t q) d hR
variable {c : Expr}
theorem s_parV {i j : Nat} {y z : Str} {px py pt pos : Pos} {kt k2 : Nat} {pt2 : Pos} (hc : X.calm = true) (hN : X.N.Nodup) (hi : X.N[i]? = some y) (hj : X.N[j]? = some z) (hij : i ≠ j) (hJi : i ∉ J) (hJj : j ∉ J)
    (hy : X.env.scope.names.lookup y = some .local) (hz : X.env.scope.names.lookup z = some .local) (ha : PA X [a, b] (tOs X.K J σ0 os)) (hw : swappedStores [.Tuple [.Name y px, .Name z py] kt pt] (.Tuple [a, b] k2 pt2) X.env = pure (some [y, z]))
    (hs : swapsWithSole [.Tuple [.Name y px, .Name z py] kt pt] (.Tuple [a, b] k2 pt2) pos.line X.env = pure false := by rfl) : PS X (.Assign [.Tuple [.Name y px, .Name z py] kt pt] (.Tuple [a, b] k2 pt2) pos) (rdS X.K J σ0 (parV i j os)) :=
  (ps_par hc hN hi hj hij hy hz ha hw hs).conseq fun Dn σ H ⟨F, env, O, s, h⟩ => by
    unfold parV at h
    cases q : rN os env with
    | none => rw [q] at h; exact h.elim
    | some p =>
      obtain ⟨ps, env1⟩ := p
      rw [q] at h
      dsimp only [Option.bind] at h
      cases q2 : exV ps with
      | none => rw [q2] at h; exact h.elim
      | some ds =>
        rw [q2] at h
        dsimp only at h
        split at h
        case h_2 => exact h.elim
        rename_i d e
        refine tOs_run s q fun xs F1 H1 O1 R1 st1 s1 w1 d1 => ?_
        cases exV_at w1 q2 with
        | cons wx wz dz hz1 =>
          cases wz with
          | cons wy wz dy hz2 =>
            cases wz with
            | nil hno =>
              have s2 := s1.store (v := d) hJi wx fun a t r => d1 a t ((hz1 a).mpr (.inl r))
              have s3 := s2.store (v := e) hJj wy fun a t r => (Tot.store a t).elim (fun t => d1 a t ((hz1 a).mpr (.inr ((hz2 a).mpr (.inl r))))) fun t => dz a t ((hz2 a).mpr (.inl r))
              refine ⟨_, _, rfl, h _ F1 H1 _ (st1.less fun a z => ?_) s3⟩
              rcases Tot.store a z with z | z
              · rcases Tot.store a z with z | z
                · exact .inl z
                · exact .inr ((hz1 a).mpr (.inl z))
              · exact .inr ((hz1 a).mpr (.inr ((hz2 a).mpr (.inl z))))
theorem s_parV3 {i j l : Nat} {y z u : Str} {px py pz pt pos : Pos} {kt k2 : Nat} {pt2 : Pos} (hc : X.calm = true) (hN : X.N.Nodup) (hi : X.N[i]? = some y) (hj : X.N[j]? = some z) (hl : X.N[l]? = some u) (hij : i ≠ j) (hil : i ≠ l) (hjl : j ≠ l) (hJi : i ∉ J) (hJj : j ∉ J) (hJl : l ∉ J)
    (hy : X.env.scope.names.lookup y = some .local) (hz : X.env.scope.names.lookup z = some .local) (hu : X.env.scope.names.lookup u = some .local) (ha : PA X [a, b, c] (tOs X.K J σ0 os)) (hw : swappedStores [.Tuple [.Name y px, .Name z py, .Name u pz] kt pt] (.Tuple [a, b, c] k2 pt2) X.env = pure (some [y, z, u]))
    (hs : swapsWithSole [.Tuple [.Name y px, .Name z py, .Name u pz] kt pt] (.Tuple [a, b, c] k2 pt2) pos.line X.env = pure false := by rfl) : PS X (.Assign [.Tuple [.Name y px, .Name z py, .Name u pz] kt pt] (.Tuple [a, b, c] k2 pt2) pos) (rdS X.K J σ0 (parV3 i j l os)) :=
  (ps_par3 hc hN hi hj hl hij hil hjl hy hz hu ha hw hs).conseq fun Dn σ H ⟨F, env, O, s, h⟩ => by
    unfold parV3 at h
    cases q : rN os env with
    | none => rw [q] at h; exact h.elim
    | some p =>
      obtain ⟨ps, env1⟩ := p
      rw [q] at h
      dsimp only [Option.bind] at h
      cases q2 : exV ps with
      | none => rw [q2] at h; exact h.elim
      | some ds =>
        rw [q2] at h
        dsimp only at h
        split at h
        case h_2 => exact h.elim
        rename_i d e g
        refine tOs_run s q fun xs F1 H1 O1 R1 st1 s1 w1 d1 => ?_
        cases exV_at w1 q2 with
        | cons wx wz dz hz1 =>
          cases wz with
          | cons wy wz dy hz2 =>
            cases wz with
            | cons wg wz dg hz3 =>
              cases wz with
              | nil hno =>
                have m3 : ∀ a, _ → _ := fun a r => (hz3 a).mpr (.inl r)
                have s2 := s1.store (v := d) hJi wx fun a t r => d1 a t ((hz1 a).mpr (.inl r))
                have s3 := s2.store (v := e) hJj wy fun a t r => (Tot.store a t).elim (fun t => d1 a t ((hz1 a).mpr (.inr ((hz2 a).mpr (.inl r))))) fun t => dz a t ((hz2 a).mpr (.inl r))
                have s4 := s3.store (v := g) hJl wg fun a t r => (Tot.store a t).elim (fun t => (Tot.store a t).elim (fun t => d1 a t ((hz1 a).mpr (.inr ((hz2 a).mpr (.inr (m3 a r)))))) fun t => dz a t ((hz2 a).mpr (.inr (m3 a r)))) fun t => dy a t (m3 a r)
                refine ⟨_, _, _, rfl, h _ F1 H1 _ (st1.less fun a z => ?_) s4⟩
                rcases Tot.store a z with z | z
                · rcases Tot.store a z with z | z
                  · rcases Tot.store a z with z | z
                    · exact .inl z
                    · exact .inr ((hz1 a).mpr (.inl z))
                  · exact .inr ((hz1 a).mpr (.inr ((hz2 a).mpr (.inl z))))
                · exact .inr ((hz1 a).mpr (.inr ((hz2 a).mpr (.inr (m3 a z)))))
@[simp] theorem exV_nil : exV [] = some [] := rfl
@[simp] theorem exV_inr {v : Val} {ps : List (Sum Nat Val)} : exV (.inr v :: ps) = (exV ps).map fun vs => v :: vs := rfl
@[simp] theorem parV_def {i j : Nat} {os : List Opd} {env : Ev} : parV i j os env = (rN os env).bind fun p => (exV p.1).bind fun ds => match ds with
  | [d, e] => some (.nx, (p.2.set i (some d)).set j (some e))
  | _ => none := rfl
@[simp] theorem parV3_def {i j l : Nat} {os : List Opd} {env : Ev} : parV3 i j l os env = (rN os env).bind fun p => (exV p.1).bind fun ds => match ds with
  | [d, e, f] => some (.nx, ((p.2.set i (some d)).set j (some e)).set l (some f))
  | _ => none := rfl
/-! ### a op b op c, b a name -/
def chainE (p q : List D → Option Val) (oa : Opd) (i : Nat) (oc : Opd) : RE := andE (opN p [oa, .nm i]) (opN q [.nm i, oc])
end Dn
end
section
set_option Elab.async false
set_option linter.all false
set_option maxRecDepth 100000
set_option maxHeartbeats 4000000
set_option exponentiation.threshold 10000
/-! DnM: reckoning: parts of lists, in, index; arithmetic that looks at its limits -/
namespace Dn
open PySem L2
theorem cutD_lo {ds : List D} {i : Nat} : cutD ds (some (i : Int)) none = ds.drop i := by
  show (ds.drop (HT.sIx ds.length 0 (some (i : Int)))).take (HT.sIx ds.length ds.length none - HT.sIx ds.length 0 (some (i : Int))) = ds.drop i
  rw [HT.sIx_nat]
  show (ds.drop (min i ds.length)).take (ds.length - min i ds.length) = ds.drop i
  by_cases h : i ≤ ds.length
  · rw [Nat.min_eq_left h, List.take_of_length_le (by rw [List.length_drop]; exact Nat.le_refl _)]
  · rw [Nat.min_eq_right (by omega), List.drop_of_length_le (Nat.le_refl _), List.drop_of_length_le (by omega), List.take_nil]
theorem cutD_hi {ds : List D} {i : Nat} : cutD ds none (some (i : Int)) = ds.take i := by
  show (ds.drop (HT.sIx ds.length 0 none)).take (HT.sIx ds.length ds.length (some (i : Int)) - HT.sIx ds.length 0 none) = ds.take i
  rw [HT.sIx_nat]
  show (ds.drop 0).take (min i ds.length - 0) = ds.take i
  rw [List.drop_zero, Nat.sub_zero]
  by_cases h : i ≤ ds.length
  · rw [Nat.min_eq_left h]
  · rw [Nat.min_eq_right (by omega), List.take_of_length_le (Nat.le_refl _), List.take_of_length_le (by omega)]
@[simp] theorem cutLoO_list {ds : List D} {i : Nat} : cutLoO [.list ds, nD i] = some ⟨.list (ds.drop i), 1⟩ := by
  show some (⟨.list (cutD ds (some (i : Int)) none), 1⟩ : Val) = _
  rw [cutD_lo]
@[simp] theorem cutLoO_tuple {ds : List D} {i : Nat} : cutLoO [.tuple ds, nD i] = some (fz (.tuple (ds.drop i))) := by
  show some (fz (.tuple (cutD ds (some (i : Int)) none))) = _
  rw [cutD_lo]
@[simp] theorem cutHiO_list {ds : List D} {i : Nat} : cutHiO [.list ds, nD i] = some ⟨.list (ds.take i), 1⟩ := by
  show some (⟨.list (cutD ds none (some (i : Int))), 1⟩ : Val) = _
  rw [cutD_hi]
@[simp] theorem cutHiO_tuple {ds : List D} {i : Nat} : cutHiO [.tuple ds, nD i] = some (fz (.tuple (ds.take i))) := by
  show some (fz (.tuple (cutD ds none (some (i : Int))))) = _
  rw [cutD_hi]
@[simp] theorem revO_list {ds : List D} : revO [.list ds] = some ⟨.list ds.reverse, 1⟩ := rfl
@[simp] theorem revO_tuple {ds : List D} : revO [.tuple ds] = some (fz (.tuple ds.reverse)) := rfl
@[simp] theorem zipO_list {as bs : List D} : zipO [.list as, .list bs] = some (pairsD as bs) := rfl
@[simp] theorem zipO_tuple {as bs : List D} : zipO [.tuple as, .tuple bs] = some (pairsD as bs) := rfl
@[simp] theorem anyO_list {ds : List D} : anyO [.list ds] = (boolsD ds).map fun ns => fz (.bool (ns.any id)) := rfl
@[simp] theorem allO_list {ds : List D} : allO [.list ds] = (boolsD ds).map fun ns => fz (.bool (ns.all id)) := rfl
theorem boolsD_map {α : Type} {g : α → Bool} : ∀ xs : List α, boolsD (xs.map fun x => PyData.bool (g x)) = some (xs.map g)
  | [] => rfl
  | x :: xs => by
    rw [List.map_cons]
    unfold boolsD
    rw [boolsD_map xs]
    rfl
theorem pairsD_map {α β : Type} {f : α → D} {g : β → D} {as : List α} {bs : List β} : pairsD (as.map f) (bs.map g) = (as.zip bs).map fun x => .tuple [f x.1, g x.2] := by
  unfold pairsD
  rw [List.zip_map, List.map_map]
  rfl
theorem notE_def {f : RE} {env : Ev} : notE f env = (f env).bind fun p => match p.1.d with
  | .bool c => some (fz (.bool (!c)), p.2)
  | _ => none := rfl
@[simp] theorem methL_list {i : Nat} {o : List D → Option Val} {os : List Opd} {env : Ev} : methL i o os env = match at_ env i with
  | some ⟨.list _, _⟩ => opN o (.nm i :: os) env
  | _ => none := rfl
theorem shaped_nats {ns : List Nat} : SeqAt.shaped (.list (ns.map nD)) = true := by
  unfold SeqAt.shaped
  rw [Bool.and_eq_true]
  have key : ∀ ns : List Nat, PyData.canLayAll0 (ns.map nD) = true := fun ns => by
    induction ns with
    | nil => rfl
    | cons a l ih => rw [List.map_cons]; unfold PyData.canLayAll0; rw [ih]; rfl
  refine ⟨by unfold PyData.canLay0; exact key ns, decide_eq_true ?_⟩
  unfold PyData.depth
  have := depthL_map (c := 0) (f := nD) (xs := ns) fun _ _ => by rw [depth_nD]; exact Nat.le_refl _
  omega
theorem shaped_nD {n : Nat} : SeqAt.shaped (nD n) = true := rfl
theorem any_nD {ns : List Nat} {m : Nat} : ((ns.map nD).any fun z => PyData.eqv z (nD m)) = decide (m ∈ ns) := by
  rw [List.any_map]
  by_cases h : m ∈ ns
  · rw [decide_eq_true h, List.any_eq_true]
    exact ⟨m, h, by rw [Function.comp, eqv_nD]; exact decide_eq_true rfl⟩
  · rw [decide_eq_false h, List.any_eq_false]
    intro x hx
    rw [Function.comp, eqv_nD]
    simp
    intro e
    exact h (e ▸ hx)
@[simp] theorem inO_list {ns : List Nat} {m : Nat} : inO [nD m, .list (ns.map nD)] = some (fz (.bool (decide (m ∈ ns)))) := by
  show (if SeqAt.shaped (nD m) && SeqAt.shaped (.list (ns.map nD)) then some (fz (.bool ((ns.map nD).any fun z => PyData.eqv z (nD m)))) else none) = _
  rw [shaped_nats, shaped_nD, any_nD]
  rfl
@[simp] theorem notinO_list {ns : List Nat} {m : Nat} : notinO [nD m, .list (ns.map nD)] = some (fz (.bool (!decide (m ∈ ns)))) := by
  show (if SeqAt.shaped (nD m) && SeqAt.shaped (.list (ns.map nD)) then some (fz (.bool (!(ns.map nD).any fun z => PyData.eqv z (nD m)))) else none) = _
  rw [shaped_nats, shaped_nD, any_nD]
  rfl
theorem flat_nats {ns : List Nat} : (ns.map nD).all flatD = true := by
  rw [List.all_eq_true]
  intro x hx
  obtain ⟨k, _, rfl⟩ := List.mem_map.mp hx
  rfl
theorem inO_tup {ns : List Nat} {m : Nat} : inO [nD m, .tuple (ns.map nD)] = some (fz (.bool (decide (m ∈ ns)))) := by
  show (if flatD (nD m) && (ns.map nD).all flatD then some (fz (.bool ((ns.map nD).any fun z => PyData.eqv z (nD m)))) else none) = _
  rw [flat_nats, any_nD]
  rfl
theorem notinO_tup {ns : List Nat} {m : Nat} : notinO [nD m, .tuple (ns.map nD)] = some (fz (.bool (!decide (m ∈ ns)))) := by
  show (if flatD (nD m) && (ns.map nD).all flatD then some (fz (.bool (!(ns.map nD).any fun z => PyData.eqv z (nD m)))) else none) = _
  rw [flat_nats, any_nD]
  rfl
@[simp] theorem inO_two {a b m : Nat} : inO [nD m, .tuple [nD a, nD b]] = some (fz (.bool (decide (m ∈ [a, b])))) := inO_tup (ns := [a, b])
@[simp] theorem notinO_two {a b m : Nat} : notinO [nD m, .tuple [nD a, nD b]] = some (fz (.bool (!decide (m ∈ [a, b])))) := notinO_tup (ns := [a, b])
@[simp] theorem indexO_list {ns : List Nat} {m : Nat} : indexO [.list (ns.map nD), nD m] = (ns.findIdx? fun z => decide (z = m)).map fun j => fz (nD j) := by
  show (if SeqAt.shaped (.list (ns.map nD)) && SeqAt.shaped (nD m) then ((ns.map nD).findIdx? fun z => PyData.eqv z (nD m)).map (fun j => fz (nD j)) else none) = _
  rw [shaped_nats, shaped_nD, List.findIdx?_map]
  have e : ((fun z => PyData.eqv z (nD m)) ∘ nD) = fun z => decide (z = m) := by
    funext z
    exact eqv_nD
  rw [e]
  rfl
/-! ### arithmetic with its limits looked at -/
def lim (a : Nat) : Bool := Nat.ble a (2 ^ 5000)
theorem lim_lt {a : Nat} (h : lim a = true) : a < 2 ^ 5001 := Nat.lt_of_le_of_lt (Nat.ble_eq.mp h) (Nat.pow_lt_pow_right (by decide) (by decide))
def mulC (a b : Nat) : Option Nat := if lim a && lim b then some (a * b) else none
def divC (a b : Nat) : Option Nat := if lim b && !(Nat.beq b 0) then some (a / b) else none
def subC (a b : Nat) : Option Nat := if Nat.ble b a then some (a - b) else none
theorem ok_mulC {a b : Nat} {P : Nat → Prop} (h : Ok (mulC a b) P) : mulOkN a b = true ∧ P (a * b) := by
  unfold mulC at h
  rw [ok_guard, Bool.and_eq_true] at h
  exact ⟨mulOkN_of (lim_lt h.1.1) (lim_lt h.1.2) (by decide) (by decide), ok_some.mp h.2⟩
theorem ok_divC {a b : Nat} {P : Nat → Prop} (h : Ok (divC a b) P) : divOkN b = true ∧ b ≠ 0 ∧ P (a / b) := by
  unfold divC at h
  rw [ok_guard, Bool.and_eq_true] at h
  have hb : b ≠ 0 := fun z => by
    subst z
    exact absurd h.1.2 (by decide)
  exact ⟨divOkN_of (by omega) (lim_lt h.1.1) (by decide), hb, ok_some.mp h.2⟩
theorem ok_subC {a b : Nat} {P : Nat → Prop} (h : Ok (subC a b) P) : b ≤ a ∧ P (a - b) := by
  unfold subC at h
  rw [ok_guard] at h
  exact ⟨Nat.ble_eq.mp h.1, ok_some.mp h.2⟩
/-- the same state, stepped -/
def runC {σ : Type} (c : σ → Bool) (st : σ → σ) : Nat → σ → Option σ
  | 0, _ => none
  | n + 1, x => if c x then runC c st n (st x) else some x
theorem while_run {σ : Type} {c : RT} {b : RS} (enc : σ → Ev) (I : Nat → σ → Prop) (k : σ → Bool) (st : σ → σ) (hc : ∀ n x, I n x → c (enc x) = some (k x, enc x)) (hb : ∀ n x, I (n + 1) x → k x = true → b (enc x) = some (.nx, enc (st x)) ∧ I n (st x)) {n : Nat} {x y : σ} (hI : I n x) (h : runC k st n x = some y) : whileS c b (enc x) = some (.nx, enc y) ∧ (∃ m, I m y) ∧ k y = false := by
  have key : ∀ (n : Nat) (x y : σ), I n x → runC k st n x = some y → (∃ m, whileN c b m (enc x) = some (.nx, enc y)) ∧ (∃ m, I m y) ∧ k y = false := by
    intro n
    induction n with
    | zero => intro x y _ h; cases h
    | succ n ih =>
      intro x y hI h
      unfold runC at h
      by_cases hk : k x = true
      · rw [if_pos hk] at h
        obtain ⟨e, hI2⟩ := hb n x hI hk
        obtain ⟨⟨m, hm⟩, h2⟩ := ih _ _ hI2 h
        exact ⟨⟨m + 1, while_step ((hc _ x hI).trans (by rw [hk])) e hm⟩, h2⟩
      · rw [if_neg hk] at h
        cases h
        have hk : k x = false := by simpa using hk
        exact ⟨⟨1, while_end ((hc _ x hI).trans (by rw [hk]))⟩, ⟨_, hI⟩, hk⟩
  obtain ⟨⟨m, hm⟩, h2⟩ := key n x y hI h
  exact ⟨whileS_eq hm, h2⟩
/-- a fold that may stop -/
def foldC {α σ : Type} (st : α → σ → Option σ) : List α → σ → Option σ
  | [], s => some s
  | x :: xs, s => (st x s).bind fun s1 => foldC st xs s1
theorem ok_foldC {α σ : Type} {t : TgD} {b : RS} (g : α → D) (st : α → σ → Option σ) (enc : σ → Ev → Prop) (hs : ∀ x s s1 e, st x s = some s1 → enc s e → Ok (t (g x) e) fun e1 => Ok (b e1) fun r => r.1 = .nx ∧ enc s1 r.2) : ∀ {xs : List α} {s s1 : σ} {e : Ev}, foldC st xs s = some s1 → enc s e → Ok (loopS t b (xs.map g) e) fun r => r.1 = .nx ∧ enc s1 r.2
  | [], s, s1, e, h, he => by cases h; unfold loopS; exact ok_some.mpr ⟨rfl, he⟩
  | x :: xs, s, s1, e, h, he => by
    unfold foldC at h
    cases q : st x s with
    | none => rw [q] at h; cases h
    | some s2 =>
      rw [q] at h
      obtain ⟨e1, q1, ⟨f, e2⟩, q2, rfl, h2⟩ := hs x s s2 e q he
      rw [List.map_cons]
      unfold loopS
      rw [q1]
      dsimp only [Option.bind]
      rw [q2]
      exact ok_foldC g st enc hs h h2
/-- one after another -/
def mapC {α β : Type} (m : α → Option β) : List α → Option (List β)
  | [] => some []
  | x :: xs => (m x).bind fun y => (mapC m xs).map fun ys => y :: ys
theorem mapC_len {α β : Type} {m : α → Option β} : ∀ {xs : List α} {ys : List β}, mapC m xs = some ys → ys.length = xs.length
  | [], _, h => by cases h; rfl
  | x :: xs, ys, h => by
    unfold mapC at h
    cases q : m x with
    | none => rw [q] at h; cases h
    | some y =>
      rw [q] at h
      cases q2 : mapC m xs with
      | none => rw [q2] at h; cases h
      | some zs => rw [q2] at h; cases h; rw [List.length_cons, List.length_cons, mapC_len q2]
theorem mapC_get {α β : Type} {m : α → Option β} : ∀ {xs : List α} {ys : List β} {i : Nat} {x : α}, mapC m xs = some ys → xs[i]? = some x → ∃ y, ys[i]? = some y ∧ m x = some y
  | [], _, _, _, _, e => by cases e
  | x :: xs, ys, i, z, h, e => by
    unfold mapC at h
    cases q : m x with
    | none => rw [q] at h; cases h
    | some y =>
      rw [q] at h
      cases q2 : mapC m xs with
      | none => rw [q2] at h; cases h
      | some zs =>
        rw [q2] at h
        cases h
        cases i with
        | zero => cases e; exact ⟨y, rfl, q⟩
        | succ i => exact mapC_get (i := i) (xs := xs) (ys := zs) q2 e
theorem mapC_mem {α β : Type} {m : α → Option β} {xs : List α} {ys : List β} (h : mapC m xs = some ys) {y : β} (hy : y ∈ ys) : ∃ x ∈ xs, m x = some y := by
  obtain ⟨i, hi, rfl⟩ := List.getElem_of_mem hy
  have hl := mapC_len h
  obtain ⟨z, e1, e2⟩ := mapC_get h (List.getElem?_eq_getElem (by omega : i < xs.length))
  rw [List.getElem?_eq_getElem hi] at e1
  cases e1
  exact ⟨_, List.getElem_mem _, e2⟩
theorem lcL_mapC {α β : Type} {t : TgD} {f : RE} {vs : List Nat} {W : Ev} (enc : α → D) (dec : β → D) (m : α → Option β) : ∀ {xs : List α} {ys : List β}, (∀ x ∈ xs, ∀ v, m x = some v → Ok (t (enc x) W) fun e => Ok (f e) fun q => q.1 = fz (dec v) ∧ wipeE q.2 vs = W) → mapC m xs = some ys → lcL t yesT f vs (xs.map enc) W = some (ys.map dec, W)
  | [], _, _, h => by cases h; rfl
  | x :: xs, ys, hm, h => by
    unfold mapC at h
    cases q : m x with
    | none => rw [q] at h; cases h
    | some y =>
      rw [q] at h
      cases q2 : mapC m xs with
      | none => rw [q2] at h; cases h
      | some zs =>
        rw [q2] at h
        cases h
        obtain ⟨e, q1, ⟨v, e3⟩, q3, h4, h5⟩ := hm x (List.mem_cons_self ..) y q
        dsimp only at h4 h5
        subst h4
        rw [List.map_cons]
        unfold lcL
        rw [q1]
        dsimp only [Option.bind]
        rw [yesT_def]
        dsimp only
        rw [if_pos rfl, q3]
        dsimp only
        rw [if_pos rfl, h5, lcL_mapC enc dec m (fun z hz => hm z (List.mem_cons_of_mem _ hz)) q2]
        rfl
end Dn
end
section
set_option Elab.async false
set_option linter.all false
set_option maxRecDepth 100000
set_option maxHeartbeats 4000000
/-! DnN: more rules: isinstance, chains of comparisons -/
namespace Dn
open PySem L2
variable {X : Cx} {J : List Nat} {σ0 : St} {pos p : Pos}
theorem pe_tyName {x : Str} {T : String} (hg : Gl X x) (hm : X.mg x = none) (hv : bootBuiltins x = some (.type T)) (hn : x ≠ "__name__" := by decide) (hd : (x == ("__debug__" : Str)) = false := by decide) : PE X (.Name x pos) (tC (.ty T)) :=
  ⟨fun pins s σ H Q I h => ld_blt I hg hm hv ⟨.ty T, H, I, rfl, h⟩ hn hd⟩
def kdD : D → String
  | .none => "NoneType"
  | .bool _ => "bool"
  | .int _ => "int"
  | .str _ => "str"
  | .list _ => "list"
  | .tuple _ => "tuple"
  | .dict _ => "dict"
theorem tyx_of {K : PySem.W.Frag} {F : AS} {H : Hp} {x : V} {d : D} (h : Vw K F H x d) : TyX K H x (.type (kdD d)) := by
  cases h with
  | fz h =>
    cases h with
    | non => exact .base .non
    | bl b => exact .base (.bl b)
    | int i => exact .base (.int i)
    | str y => exact .base (.str y)
    | tup h t => exact .base (.tup h.2)
    | tupK h t =>
      obtain ⟨o, its, n, e, c, _⟩ := h
      exact .kTuple e c
    | lst h t => exact .base (.lst h.2)
    | dK h t => exact .base (.dK h.2)
  | lst h t => exact .base (.lst h)
  | dK h t => exact .base (.dK h)
/-- of the type, or a bool as an int -/
def isT (T : String) (d : D) : Bool := (kdD d == T) || (T == "int" && kdD d == "bool")
def tyOk (T : String) : Bool := T == "int" || T == "bool" || T == "str" || T == "list" || T == "tuple" || T == "dict"
theorem kit_is {K : PySem.W.Frag} {T : String} (hT : tyOk T = true) (d : D) : PySem.W.kitOne K (.type (kdD d)) (.type T) = some (isT T d) := by
  unfold tyOk at hT
  simp only [Bool.or_eq_true, beq_iff_eq] at hT
  rcases hT with ((((rfl | rfl) | rfl) | rfl) | rfl) | rfl <;> cases d <;> rfl
def isiO (T : String) : List D → Option Val
  | [d] => some (fz (.bool (isT T d)))
  | _ => none
variable {a b c e : Expr} {oa ob oc : Opd} {os : List Opd}
/-- isinstance(a, T), T a built-in type -/
theorem e_isi {T : String} {x : Str} {p1 : Pos} (hT : tyOk T = true) (hg : Gl X "isinstance") (hm : X.mg "isinstance" = none) (hg2 : Gl X x) (hm2 : X.mg x = none) (hv : bootBuiltins x = some (.type T)) (ha : PE X a (tO X.K J σ0 oa))
    (hn : x ≠ "__name__" := by decide) (hd : (x == ("__debug__" : Str)) = false := by decide) (hs : starEach [a, .Name x p1] X.env = (false, eval a X.env) :: starEach [.Name x p1] X.env := by rfl) (hs2 : starEach [.Name x p1] X.env = (false, eval (.Name x p1) X.env) :: starEach [] X.env := by rfl)
    (hpl : (backTo pos (starEach [.Name x p1] X.env)).any (·.1) = false := by rfl) : PE X (.Call (.Name "isinstance" p) [a, .Name x p1] [] pos) (rdE X.K J σ0 (opN (isiO T) [oa])) :=
  (pe_callB call_isi hg hm (by decide +kernel) (pa_cons ha (pa_cons (pe_tyName hg2 hm2 hv hn hd) pa_nil hs2) hs) (by decide) (by decide) hs hpl).conseq fun σ H Q h =>
    (op_run (r := fun vs H1 Q => match vs with | [x] => rIsi X.K [x, .ty T] H1 Q | _ => False) (fun F H xs ds res Q al hv e h => by
      unfold isiO at e
      split at e
      · cases e
        obtain ⟨x, rfl, h1⟩ := hv.one
        exact ⟨_, _, _, _, _, rfl, .ty T, tyx_of h1, kit_is hT _, h.bl⟩
      · cases e) h : tCB _ (tOs X.K J σ0 [oa]) σ H Q)
/-! ### a op b op c of ints -/
def sndI : List D → Option Int
  | [_, .int n] => some n
  | _ => none
@[simp] theorem sndI_int {d : D} {n : Int} : sndI [d, .int n] = some n := rfl
@[simp] theorem sndI_nD {d : D} {n : Nat} : sndI [d, nD n] = some (n : Int) := rfl
@[simp] theorem int_cast {n : Nat} : PyData.int (n : Int) = nD n := rfl
def chainI (p q : List D → Option Val) (oa : Opd) (f : RE) (oc : Opd) : RE := fun env => (rN [oa, .ex f] env).bind fun P => (rsN P.1 P.2).bind fun ds => (sndI ds).bind fun n => (p ds).bind fun r => match r with
    | ⟨.bool k, 0⟩ => if k = true then opN q [.ex (cE (.int n)), oc] P.2 else some (fz (.bool false), P.2)
    | _ => none
theorem e_chain {op op' : CmpOp} {r r' : R2} {o o' : List D → Option Val} {f : RE} (ho : OpR X (compareOp op) r) (hs : SemN X (r2 r) o) (ho' : OpR X (compareOp op') r') (hs' : SemN X (r2 r') o') (ha : PE X a (tO X.K J σ0 oa)) (hb : PE X b (rdE X.K J σ0 f)) (hc : PE X c (tO X.K J σ0 oc))
    (hm : lastMarks [op, op'] [b, c] = false := by with_unfolding_all rfl) : PE X (.Compare a [op, op'] [b, c] pos) (rdE X.K J σ0 (chainI o o' oa f oc)) :=
  (pe_chain ho ho' ha hb hc hm).conseq fun σ H Q ⟨F, env, O, s, h⟩ => by
    unfold chainI at h
    cases q : rN [oa, .ex f] env with
    | none => rw [q] at h; exact h.elim
    | some P =>
      obtain ⟨ps, env1⟩ := P
      rw [q] at h
      dsimp only [Option.bind] at h
      cases q2 : rsN ps env1 with
      | none => rw [q2] at h; exact h.elim
      | some ds =>
        rw [q2] at h
        dsimp only at h
        cases q4 : sndI ds with
        | none => rw [q4] at h; exact h.elim
        | some n =>
        rw [q4] at h
        dsimp only at h
        obtain ⟨da, rfl⟩ : ∃ da, ds = [da, .int n] := by
          unfold sndI at q4
          split at q4
          · cases q4; exact ⟨_, rfl⟩
          · cases q4
        cases q3 : o [da, .int n] with
        | none => rw [q3] at h; exact h.elim
        | some res =>
          rw [q3] at h
          dsimp only at h
          split at h
          case h_2 => exact h.elim
          rename_i k
          have key : tOs X.K J σ0 [oa, .ex f] σ H (fun vs H2 => match vs with
            | [x, y] => r x y H2 fun z H3 => ∃ k, z = .bl k ∧ (if k = true then tO X.K J σ0 oc σ H3 fun w H4 => r' y w H4 Q else Q (.bl false) H3)
            | _ => True) := by
            refine tOs_run s q fun xs F1 H1 O1 R1 st1 s1 w1 d1 => ?_
            have hv := rsN_vw s1 w1 q2
            obtain ⟨x, y, rfl, h1, h2⟩ := hv.two
            have hy := h2.int
            subst hy
            refine hs F1 H1 _ _ _ _ s1.al hv q3 fun z F' H' R hH hF hg hR w => ?_
            have hz := ow_bl w
            subst hz
            have st : Stp F H (Tot O) F' H' (Tot O1) := ⟨fun a f => hF a (st1.mono a f), fun a f => (hg a f).elim (fun z => st1.grow a z) fun z => .inr (.inr (none_of_there st1.there z.1)), fun a t => st1.own a (.inl t), fun a u e n => hH a u (st1.keep a u e n), fun a u e => let ⟨u', e'⟩ := st1.there a u e; ⟨u', hH a u' e'⟩⟩
            have s2 := s1.grown hH hF hg
            refine ⟨k, rfl, ?_⟩
            cases k with
            | false =>
              rw [if_neg (by decide)] at h ⊢
              exact h (.bl false) F' H' O1 (fun _ => False) (st.less fun a z => z.elim id False.elim) s2 (.of_fz (.bl false)) fun _ _ z => z
            | true =>
              rw [if_pos rfl] at h ⊢
              have h3 : tCB (r2 r') (tOs X.K J σ0 [.ex (cE (.int n)), oc]) σ H' Q := op_run hs' ⟨F', env1, O1, s2, PostE.after h st fun _ z => z⟩
              obtain ⟨F2, env2, O2, s3, p3⟩ := h3
              exact p3 (.int n) F2 H' O2 (fun _ => False) (.refl _ _ _ _ fun a z => z.elim id False.elim) s3 (.of_fz (.int n)) fun _ _ z => z
          exact key
@[simp] theorem chainI_def {p q : List D → Option Val} {oa oc : Opd} {f : RE} {env : Ev} : chainI p q oa f oc env = (rN [oa, .ex f] env).bind fun P => (rsN P.1 P.2).bind fun ds => (sndI ds).bind fun n => (p ds).bind fun r => match r with
    | ⟨.bool k, 0⟩ => if k = true then opN q [.ex (cE (.int n)), oc] P.2 else some (fz (.bool false), P.2)
    | _ => none := rfl
end Dn
end
section
set_option Elab.async false
set_option linter.all false
set_option maxRecDepth 100000
set_option maxHeartbeats 4000000
namespace Law
open PySem L2 Dn
def topS (i : Nat) : Stmt := PySem.Challenge.pw_chancesmet_k58_whole_bold_play_without_e.main.body.getD i (.Pass ⟨0, 0, 0, 0⟩)
abbrev sOpen : Stmt := topS 23
abbrev sPick : Stmt := topS 24
/-! ### the source, family B -/
def drain : Nat → Int → List Int → Int × List Int
  | 0, l, cs => (l, cs)
  | n + 1, l, cs => if l < 2 then (match cs[cs.length - 1]? with
    | some z => drain n z cs.dropLast
    | none => (l, cs)) else (l, cs)
def pickB (s : Src) (m : Int) : Int × Src :=
  if m < 2 then (0, s) else
    let d := drain s.cells.length s.left s.cells
    if d.1 > 1 then (d.1.fmod m, ⟨d.2, d.1.fdiv m, s.mixed, s.turn⟩) else
      let t := s.turn + 1
      let x := (s.mixed + t * 104729).fmod 998244353
      let y := (x * x + t * 17).fmod 2147483647
      ((y.fdiv 16).fmod m, ⟨d.2, d.1, s.mixed, t⟩)
theorem scPick : FnScope ["source", "most", "cells", "others", "lap", "stirred"] ["source", "most"] (defScope sPick) := ⟨rfl, rfl, rfl, by decide +kernel, rfl, by decide +kernel, by decide +kernel⟩
section
variable {P : Program} {w : World} {K : PySem.W.Frag} {mg : Str → Option Value} {base : Heap}
theorem ns_str {x : Str} {j : Nat} {pos : Pos} : NoSl (.Constant (.str x) j pos) := fun _ _ => rfl
theorem ok_pick {f : Addr} {fd : FuncData} (F : Fun K "_law_pick" "_law_pick" sPick f fd) (ml : mg "len" = none) (mi : mg "int" = none) : FnG P w K mg base 1 f fd ["source", "most"] (spD K [0] 2 (pickD pickB)) := by
  refine Fun.okG F scPick (fun vs H Q E h => h.1) fun cdv A outer s H vs Q hr h => ?_
  obtain ⟨a, c, S, m, rfl, hm, hs, k⟩ := pick_sp h
  have hu := hu_of hr.r
  refine ⟨_, pss_cons (ps_if (pt_cmpR op_lt (pv 1) pe_int (nomark _)) (pss_one (ps_ret pe_int)) pss_nil)
    (pss_cons (ps_set (i := 2) scPick.nd rfl (.inl rfl) (pe_dget hu (pv 0) pe_str ns_str))
    (C8.pss_cut (ps_while PassesOwn.never (PW.pt (pw_and (pt_cmpR op_lt (pe_dget hu (pv 0) pe_str ns_str) pe_int (nomark _)) (pw_and1 (pt_cmpR op_gt (pe_callB call_len_seq (by rfl) ml (by decide +kernel) (pa_cons (pv 2) pa_nil)) pe_int (nomark _)))))
      (pss_one (ps_dput hu (pv 0) pe_str (pe_bm0 PySem.F.plainAttrs_list PySem.F.slot_list_pop PySem.F.type_list_pop mt_pop (pv 2)) rfl)))
    (pss_cons (ps_set (i := 3) scPick.nd rfl (.inl rfl) (pe_dget hu (pv 0) pe_str ns_str))
    (pss_cons (ps_if (pt_cmpR op_gt (pv 3) pe_int (nomark _)) (pss_cons (ps_dput hu (pv 0) pe_str (pe_op op_fdivN (pv 3) (pv 1)) rfl)
      (pss_one (ps_ret (pe_op op_modN (pe_callTy call_int1 (by rfl) mi (by decide +kernel) (pa_cons (pv 3) pa_nil)) (pv 1))))) pss_nil)
    (pss_cons (ps_dput hu (pv 0) pe_str (pe_op op_add (pe_dget hu (pv 0) pe_str ns_str) pe_int) rfl)
    (pss_cons (ps_set (i := 4) scPick.nd rfl (.inl rfl) (pe_dget hu (pv 0) pe_str ns_str))
    (pss_cons (ps_set (i := 5) scPick.nd rfl (.inl rfl) (pe_op op_modN (pe_callTy call_int1 (by rfl) mi (by decide +kernel) (pa_cons (pe_op op_add (pe_dget hu (pv 0) pe_str ns_str) (pe_op op_mul (pv 4) pe_int)) pa_nil)) pe_int))
    (pss_cons (ps_set (i := 5) scPick.nd rfl (.inl rfl) (pe_op op_modN (pe_callTy call_int1 (by rfl) mi (by decide +kernel) (pa_cons (pe_op op_add (pe_op op_mul (pv 5) (pv 5)) (pe_op op_mul (pv 4) pe_int)) pa_nil)) pe_int))
    (pss_one (ps_ret (pe_op op_modN (pe_callTy call_int1 (by rfl) mi (by decide +kernel) (pa_cons (pe_op op_fdivN (pv 5) pe_int) pa_nil)) (pv 1)))))))))))), ?_⟩
  refine ⟨_, rfl, _, _, rfl, rfl, _, rfl, ite2 (fun e => ?_) (fun e => ?_)⟩
  · have hm2 : m < 2 := by simpa using e
    have ep : pickB S m = (0, S) := by unfold pickB; rw [if_pos hm2]
    rw [ep] at k
    exact k H hs fun _ _ _ => rfl
  have hm2 : ¬ m < 2 := by simpa using e
  refine ⟨_, rfl, a, _, rfl, DGet.k (k := Sum.inr "cells") hs.d, ?_⟩
  have gLeft : ∀ {H1 : Hp} {S1 : Src}, SrcAt H1 a c S1 → DGet H1 a (.str "left") (some (.int S1.left)) := fun h => DGet.k (k := Sum.inr "left") h.d
  have gMix : ∀ {H1 : Hp} {S1 : Src}, SrcAt H1 a c S1 → DGet H1 a (.str "mixed") (some (.int S1.mixed)) := fun h => DGet.k (k := Sum.inr "mixed") h.d
  have gTurn : ∀ {H1 : Hp} {S1 : Src}, SrcAt H1 a c S1 → DGet H1 a (.str "turn") (some (.int S1.turn)) := fun h => DGet.k (k := Sum.inr "turn") h.d
  have pLeft : ∀ {H1 : Hp} {S1 : Src} {z : Int}, SrcAt H1 a c S1 → DPut H1 a (.str "left") (.int z) (upd H1 a (.dK (srcK c z S1.mixed S1.turn))) := fun h => DPut.k (k := Sum.inr "left") h.d (by show 4 < sizeLine; decide)
  have pTurn : ∀ {H1 : Hp} {S1 : Src} {z : Int}, SrcAt H1 a c S1 → DPut H1 a (.str "turn") (.int z) (upd H1 a (.dK (srcK c S1.left S1.mixed z))) := fun h => DPut.k (k := Sum.inr "turn") h.d (by show 4 < sizeLine; decide)
  have nac : c ≠ a := fun z => hs.ne z.symm
  have sPutL : ∀ {H1 : Hp} {S1 : Src} {z : Int}, SrcAt H1 a c S1 → SrcAt (upd H1 a (.dK (srcK c z S1.mixed S1.turn))) a c ⟨S1.cells, z, S1.mixed, S1.turn⟩ := fun h => ⟨upd_same, by rw [upd_ne nac]; exact h.l⟩
  have sPutT : ∀ {H1 : Hp} {S1 : Src} {z : Int}, SrcAt H1 a c S1 → SrcAt (upd H1 a (.dK (srcK c S1.left S1.mixed z))) a c ⟨S1.cells, S1.left, S1.mixed, z⟩ := fun h => ⟨upd_same, by rw [upd_ne nac]; exact h.l⟩
  refine ⟨fun σ H1 => ∃ S1 : Src, σ = [some (.ref a), some (.int m), some (.ref c), none, none, none] ∧ SrcAt H1 a c S1 ∧ S1.mixed = S.mixed ∧ S1.turn = S.turn ∧ (∀ b, b ≠ a → b ≠ c → H1 b = H b) ∧ drain S.cells.length S.left S.cells = (S1.left, S1.cells), ?_, ?_⟩
  · refine ⟨fun n σ H1 => ∃ S1 : Src, n = S1.cells.length ∧ σ = [some (.ref a), some (.int m), some (.ref c), none, none, none] ∧ SrcAt H1 a c S1 ∧ S1.mixed = S.mixed ∧ S1.turn = S.turn ∧ (∀ b, b ≠ a → b ≠ c → H1 b = H b) ∧ drain S1.cells.length S1.left S1.cells = drain S.cells.length S.left S.cells,
      ⟨_, S, rfl, rfl, hs, rfl, rfl, fun _ _ _ => rfl, rfl⟩, ?_⟩
    rintro n σ H1 ⟨S1, rfl, rfl, h1, em, et, hk, hd⟩
    refine ⟨_, rfl, a, _, rfl, gLeft h1, _, _, rfl, rfl, _, rfl, ?_⟩
    by_cases hl : S1.left < 2
    · rw [decide_eq_true hl]
      refine iteT ?_
      refine ⟨_, rfl, c, _, rfl, .inl (SqL.of h1.l), _, _, rfl, rfl, _, rfl, ?_⟩
      by_cases h0 : (0 : Int) < ((S1.cells.map V.int).length : Int)
      · rw [decide_eq_true h0]
        refine iteT ?_
        rw [List.length_map] at h0
        obtain ⟨z, hz⟩ : ∃ z, S1.cells[S1.cells.length - 1]? = some z := ⟨_, List.getElem?_eq_getElem (by omega)⟩
        refine ⟨fun σ' H' => ∃ S2 : Src, S2.cells.length < S1.cells.length ∧ σ' = [some (.ref a), some (.int m), some (.ref c), none, none, none] ∧ SrcAt H' a c S2 ∧ S2.mixed = S.mixed ∧ S2.turn = S.turn ∧ (∀ b, b ≠ a → b ≠ c → H' b = H b) ∧ drain S2.cells.length S2.left S2.cells = drain S.cells.length S.left S.cells,
          fun σ' H' ⟨S2, l2, q⟩ => ⟨_, l2, S2, rfl, q⟩, ?_⟩
        refine ⟨_, rfl, .inl ⟨rfl, _, SqL.of h1.l⟩, c, _, .int z, rfl, rfl, h1.l, by rw [List.length_map, List.getElem?_map, hz]; rfl, ?_⟩
        have hd1 : SrcAt (upd H1 c (.lst (S1.cells.map V.int).dropLast)) a c ⟨S1.cells.dropLast, S1.left, S1.mixed, S1.turn⟩ := ⟨by rw [upd_ne hs.ne]; exact h1.d, by rw [upd_same, List.map_dropLast]⟩
        refine ⟨_, rfl, a, _, rfl, pLeft hd1, ⟨S1.cells.dropLast, z, S1.mixed, S1.turn⟩, ?_, rfl, sPutL hd1, em, et, fun b h1 h2 => ?_, ?_⟩
        · show S1.cells.dropLast.length < _
          rw [List.length_dropLast]; omega
        · rw [upd_ne h1, upd_ne h2]; exact hk b h1 h2
        · rw [← hd]
          show drain S1.cells.dropLast.length z S1.cells.dropLast = _
          obtain ⟨n, hn⟩ : ∃ n, S1.cells.length = n + 1 := ⟨S1.cells.length - 1, by omega⟩
          rw [List.length_dropLast, hn]
          show drain n z _ = _
          conv => rhs; unfold drain
          rw [if_pos hl, hz]
      · rw [decide_eq_false h0]
        refine iteF ?_
        rw [List.length_map] at h0
        have e0 : S1.cells = [] := List.eq_nil_of_length_eq_zero (by omega)
        refine ⟨S1, rfl, h1, em, et, hk, ?_⟩
        rw [← hd, e0]
        rfl
    · rw [decide_eq_false hl]
      refine iteF (iteF ?_)
      refine ⟨S1, rfl, h1, em, et, hk, ?_⟩
      rw [← hd]
      cases S1.cells.length with
      | zero => rfl
      | succ n => unfold drain; rw [if_neg hl]
  · rintro σ H1 ⟨S1, rfl, h1, em, et, hk, hd⟩
    refine ⟨_, rfl, a, _, rfl, gLeft h1, _, rfl, _, _, rfl, rfl, _, rfl, ite2 (fun e => ?_) (fun e => ?_)⟩
    · have hl : S1.left > 1 := by simpa using e
      have ep : pickB S m = (S1.left.fmod m, ⟨S1.cells, S1.left.fdiv m, S.mixed, S.turn⟩) := by
        unfold pickB
        rw [if_neg hm2, hd]
        exact if_pos hl
      rw [ep] at k
      refine ⟨_, rfl, _, rfl, _, _, rfl, rfl, ⟨by omega, by omega⟩, _, rfl, a, _, rfl, pLeft h1, ?_⟩
      refine ⟨_, rfl, .inl ⟨_, rfl, _, rfl, _, _, rfl, rfl, by omega, ?_⟩⟩
      have h2 := sPutL (z := S1.left.fdiv m) h1
      rw [em, et] at h2 ⊢
      refine k _ h2 fun b n1 n2 => ?_
      rw [upd_ne n1]; exact hk b n1 n2
    · have hl : ¬ S1.left > 1 := by simpa using e
      have ep : pickB S m = (((((S.mixed + (S.turn + 1) * 104729).fmod 998244353 * (S.mixed + (S.turn + 1) * 104729).fmod 998244353 + (S.turn + 1) * 17).fmod 2147483647).fdiv 16).fmod m, ⟨S1.cells, S1.left, S.mixed, S.turn + 1⟩) := by
        unfold pickB
        rw [if_neg hm2, hd]
        exact if_neg hl
      rw [ep] at k
      have h2 := sPutT (z := S1.turn + 1) h1
      refine ⟨_, rfl, a, _, rfl, gTurn h1, _, _, rfl, rfl, _, rfl, a, _, rfl, pTurn h1, ?_⟩
      refine ⟨_, rfl, a, _, rfl, gTurn h2, ?_⟩
      have sm : ∀ x : Int, CMul x 104729 := fun x => .inr ⟨by decide, by decide⟩
      have sm2 : ∀ x : Int, CMul x 17 := fun x => .inr ⟨by decide, by decide⟩
      refine ⟨_, rfl, a, _, rfl, gMix h2, _, rfl, _, _, rfl, rfl, sm _, _, _, rfl, rfl, .inl ⟨_, rfl, _, _, rfl, rfl, (show (998244353 : Int) ≠ 0 by decide), ?_⟩⟩
      have b1 : ∀ x : Int, 0 ≤ x.fmod 998244353 ∧ x.fmod 998244353 < 998244353 := fun x => ⟨Int.fmod_nonneg_of_pos _ (by decide), Int.fmod_lt_of_pos _ (by decide)⟩
      have sq : ∀ x : Int, CMul (x.fmod 998244353) (x.fmod 998244353) := fun x => .inl ⟨by have := (b1 x).1; omega, by have := (b1 x).2; omega⟩
      refine ⟨_, rfl, _, rfl, _, _, rfl, rfl, sq _, _, rfl, _, _, rfl, rfl, sm2 _, _, _, rfl, rfl, .inl ⟨_, rfl, _, _, rfl, rfl, (show (2147483647 : Int) ≠ 0 by decide), ?_⟩⟩
      refine ⟨_, rfl, _, _, rfl, rfl, ⟨by decide, by decide⟩, .inl ⟨_, rfl, _, rfl, _, _, rfl, rfl, by omega, ?_⟩⟩
      rw [em, et] at h2 ⊢
      refine k _ h2 fun b n1 n2 => ?_
      rw [upd_ne n1]; exact hk b n1 n2
def absI (i : Int) : Int := if i < 0 then -i else i
def stir (x c : Int) : Int := (x * 69069 + c * 31 + 5).fmod 2147483629
def openB (ns : List Int) : Src := ⟨(ns.map absI).reverse, 1, ns.foldl stir 11, 0⟩
theorem scOpen : FnScope ["script", "stirred", "cell", "cells"] ["script"] (defScope sOpen) := ⟨rfl, rfl, rfl, by decide +kernel, rfl, by decide +kernel, by decide +kernel⟩
theorem ok_open {f : Addr} {fd : FuncData} (F : Fun K "_law_open_cells" "_law_open_cells" sOpen f fd) (mi : mg "int" = none) (ma : mg "abs" = none) : FnG P w K mg base 1 f fd ["script"] (spOpen K fun ns => encS (openB ns)) := by
  refine Fun.okG F scOpen (fun vs H Q E h => ?_) fun cdv A outer s H vs Q hr h => ?_
  · obtain ⟨a, ns, rfl, _⟩ := h; rfl
  obtain ⟨a, ns, rfl, hS, hl, k⟩ := h
  refine ⟨_, pss_cons (ps_set (i := 1) scOpen.nd rfl (.inl rfl) pe_int)
    (C8.pss_cut (ps_for PassesOwn.never rfl (pi_list (pv 0)) (pg_name (i := 2) scOpen.nd rfl (.inl rfl)) (pss_one (ps_set (i := 1) scOpen.nd rfl (.inl rfl)
      (pe_op op_modN (pe_callTy call_int1 (by rfl) mi (by decide +kernel) (pa_cons (pe_op op_add (pe_op op_add (pe_op op_mul (pv 1) pe_int) (pe_op op_mul (pv 2) pe_int)) pe_int) pa_nil)) pe_int))))
    (C8.pss_cut (ps_setLc (i := 3) (own := [("cell", 2)]) (g := gName 2) (tt := tYes) rfl scOpen.nd rfl rfl (sw_true rfl rfl rfl (by decide +kernel)) (pi_list (pv 0)) (blkOk_by (N := ["script", "stirred", "cell", "cells"]) (sc := defScope sOpen) (by decide +kernel)) (fun _ _ _ _ _ => pg_name (i := 2) scOpen.nd rfl (Or.inl rfl)) (fun _ _ _ _ _ => pts_nil)
      (fun _ _ _ _ _ => pe_callB call_abs (by rfl) ma (by decide +kernel) (pa_cons (pv 2) pa_nil)))
    (pss_one (ps_ret (pe_disp (pps_cons pe_str (pe_revL (pv 3)) (pps_cons pe_str pe_int (pps_cons pe_str (pv 1) (pps_cons pe_str pe_int pps_nil)))) (by rfl) (by rfl) (fun z => by cases z) (by decide)))))), ?_⟩
  refine ⟨fun σ H1 => H1 = H ∧ ∃ y, σ = [some (.ref a), some (.int (ns.foldl stir 11)), y, none], ?_, ?_⟩
  · refine ⟨_, rfl, a, rfl, ⟨_, hS⟩, for_list (K := K) (a := a) (xs := ns.map V.int) (fun i σ H1 => H1 = H ∧ ∃ y, σ = [some (.ref a), some (.int ((ns.take i).foldl stir 11)), y, none]) ⟨rfl, none, rfl⟩ (fun i σ H1 _ z => by rw [z.1]; exact hS) ?_ ?_⟩
    · rintro i x σ H1 hx ⟨rfl, y, rfl⟩
      rw [List.getElem?_map] at hx
      cases q : ns[i]? with
      | none => rw [q] at hx; cases hx
      | some z =>
        rw [q] at hx
        cases hx
        refine ⟨_, rfl, _, _, rfl, rfl, .inr ⟨by decide, by decide⟩, _, rfl, _, _, rfl, rfl, .inr ⟨by decide, by decide⟩, _, _, rfl, rfl, _, _, rfl, rfl, .inl ⟨_, rfl, _, _, rfl, rfl, (show (2147483629 : Int) ≠ 0 by decide), rfl, some (.int z), ?_⟩⟩
        have e : (ns.take (i + 1)).foldl stir 11 = stir ((ns.take i).foldl stir 11) z := by
          rw [List.take_add_one, q, List.foldl_append]
          rfl
        rw [e]
        rfl
    · rintro σ H1 ⟨rfl, y, rfl⟩
      rw [List.length_map, List.take_length]
      exact ⟨rfl, y, rfl⟩
  rintro σ H1 ⟨rfl, y, rfl⟩
  refine ⟨fun σ H2 => ∃ D, σ = [some (.ref a), some (.int (ns.foldl stir 11)), y, some (.ref D)] ∧ H1 D = none ∧ (∀ b o, H1 b = some o → H2 b = some o) ∧ H2 D = some (.lst ((ns.map absI).map V.int)), ?_, ?_⟩
  · refine ⟨_, rfl, a, rfl, ⟨_, hS⟩, fun D hD => lc_list (K := K) (a := a) (xs := ns.map V.int) (fun i H2 => (∀ b o, H1 b = some o → H2 b = some o) ∧ H2 D = some (.lst (((ns.take i).map absI).map V.int))) ⟨upd_keep hD, upd_same⟩ (fun i H2 _ z => (show Same H1 H2 from z.1).seq hS) ?_ ?_⟩
    · rintro i x H2 hx ⟨hk, hD2⟩
      rw [List.getElem?_map] at hx
      cases q : ns[i]? with
      | none => rw [q] at hx; cases hx
      | some z =>
        rw [q] at hx
        cases hx
        refine ⟨rfl, ?_⟩
        refine iteT (B := (∀ (b : Addr) (o : HO), H1 b = some o → H2 b = some o) ∧ H2 D = some (HO.lst (List.map V.int (List.map absI (List.take (i + 1) ns))))) ?_
        refine ⟨_, rfl, z, rfl, _, hD2, ?_, fun b o e => ?_, ?_⟩
        · rw [List.length_map, List.length_map, List.length_take]
          exact small1000 (by omega)
        · rw [upd_ne (ne_of_none e hD)]; exact hk b o e
        · rw [upd_same, List.take_add_one, q, List.map_append, List.map_append]
          rfl
    · rintro H2 ⟨hk, hD2⟩
      rw [List.length_map, List.take_length] at hD2
      exact ⟨D, rfl, hD, hk, hD2⟩
  rintro σ H2 ⟨D, rfl, hD, hk, hD2⟩
  intro p hp
  have nDp : D ≠ p := ne_of_none hD2 hp
  refine ⟨_, rfl, D, _, rfl, .inl (.inl (by rw [upd_ne nDp]; exact hD2)), fun q hq => ?_⟩
  have npq : p ≠ q := fun z => by rw [← z, upd_same] at hq; cases hq
  refine ⟨_, rfl, by rw [upd_ne npq, upd_same], srcK q 1 (ns.foldl stir 11) 0, rfl, by show 4 ≤ 15; decide, ?_⟩
  have hq2 : H2 q = none := by rw [upd_ne npq.symm] at hq; exact hq
  have hp1 : H1 p = none := by
    cases e : H1 p with
    | none => rfl
    | some o => rw [hk p o e] at hp; cases hp
  have hq1 : H1 q = none := by
    cases e : H1 q with
    | none => rfl
    | some o => rw [hk q o e] at hq2; cases hq2
  have hs : SrcAt (upd (upd (upd H2 p (.dK [])) q (.lst ((ns.map absI).map V.int).reverse)) p (.dK (srcK q 1 (ns.foldl stir 11) 0))) p q (openB ns) := ⟨upd_same, by
    rw [upd_ne npq.symm, upd_same]
    show _ = some (HO.lst (((ns.map absI).reverse).map V.int))
    rw [List.map_reverse]⟩
  obtain ⟨w, hR⟩ := open_sp (K := K) (F := fun _ => False) (H := H1) hs hp1 hq1
  refine k _ _ _ _ (fun b o e => ?_) (fun b z => z.elim) hR w
  rw [upd_ne (ne_of_none e hp1), upd_ne (ne_of_none e hq1), upd_ne (ne_of_none e hp1)]
  exact hk b o e
end
noncomputable abbrev d_law_pick : DF := pickD pickB
section
variable {P : Program} {w : World} {K : PySem.W.Frag} {mg : Str → Option Value} {base : Heap}
structure NoB (mg : Str → Option Value) : Prop where
  b_abs : mg "abs" = none
  b_all : mg "all" = none
  b_any : mg "any" = none
  b_bool : mg "bool" = none
  b_int : mg "int" = none
  b_isinstance : mg "isinstance" = none
  b_len : mg "len" = none
  b_max : mg "max" = none
  b_min : mg "min" = none
  b_range : mg "range" = none
  b_repr : mg "repr" = none
  b_tuple : mg "tuple" = none
  b_zip : mg "zip" = none
/-! ### stop_divisor -/
abbrev s_stop_divisor : Stmt := topS 1
abbrev n_stop_divisor : List Str := ["one", "other"]
theorem sc_stop_divisor : FnScope n_stop_divisor ["one", "other"] (defScope s_stop_divisor) := ⟨rfl, rfl, rfl, by decide +kernel, rfl, by decide +kernel, by decide +kernel⟩
noncomputable def b_stop_divisor : RS := seqS (whileS (tst (opN nesO [.nm 1, .ex (cE (nD 0))])) (parV 0 1 [.ex (nmE 1), .ex (opN modO [.nm 0, .nm 1])])) (retS (opN max2O [.ex (cE (nD 1)), .nm 0]))
noncomputable def d_stop_divisor : DF := runB 2 b_stop_divisor
theorem ok_stop_divisor (B : NoB mg) (F : Own K mg "stop_divisor" s_stop_divisor)  : Cal P w K mg base "stop_divisor" 1 ["one", "other"] (spD K [] 2 d_stop_divisor) :=
  cal_den F sc_stop_divisor rfl (by decide) (fun _ _ _ _ _ _ us hl => match us, hl with | [_, _], _ => rfl) fun f cdv A outer s H σ0 hr =>
    (s_cons (s_while PassesOwn.never (t_cmp (op_neS hr.u64) sem_neS rfl (pv 1) e_int) (s_one (s_parV rfl sc_stop_divisor.nd (i := 0) (j := 1) rfl rfl (by decide) (by decide) (by decide) rfl rfl (a_cons (e_nm (pv 1)) (a_cons (e_bin op_modN sem_mod (pv 0) (pv 1)) a_nil)) (by rfl)))) (s_one (s_ret (e_op (pe_callB (call_max2 rfl) (by rfl) B.b_max (by decide +kernel) (a_cons e_int (a_cons (pv 0) a_nil))) sem_max2))))
/-! ### stop_pair -/
abbrev s_stop_pair : Stmt := topS 2
abbrev n_stop_pair : List Str := ["above", "below", "by"]
theorem sc_stop_pair : FnScope n_stop_pair ["above", "below"] (defScope s_stop_pair) := ⟨rfl, rfl, rfl, by decide +kernel, rfl, by decide +kernel, by decide +kernel⟩
noncomputable def b_stop_pair : RS := seqS (asgS 2 (callE d_stop_divisor [.nm 0, .nm 1])) (retS (opF tupD [.ex (fzE (opN fdivO [.nm 0, .nm 2])), .ex (fzE (opN fdivO [.nm 1, .nm 2]))]))
noncomputable def d_stop_pair : DF := runB 3 b_stop_pair
theorem ok_stop_pair (B : NoB mg) (F : Own K mg "stop_pair" s_stop_pair) (C_stop_divisor : Cal P w K mg base "stop_divisor" 1 ["one", "other"] (spD K [] 2 d_stop_divisor)) : Cal P w K mg base "stop_pair" 2 ["above", "below"] (spD K [] 2 d_stop_pair) :=
  cal_den F sc_stop_pair rfl (by decide) (fun _ _ _ _ _ _ us hl => match us, hl with | [_, _], _ => rfl) fun f cdv A outer s H σ0 hr =>
    (s_cons (s_asg sc_stop_pair.nd (i := 2) rfl (.inl rfl) (by decide) (c_call C_stop_divisor hr (by decide) (by rfl) (a_cons (pv 0) (a_cons (pv 1) a_nil)))) (s_one (s_ret (e_tup (a_cons (e_fz (e_bin op_fdivU sem_fdiv (pv 0) (pv 2))) (a_cons (e_fz (e_bin op_fdivU sem_fdiv (pv 1) (pv 2))) a_nil))))))
/-! ### is_less -/
abbrev s_is_less : Stmt := topS 3
abbrev n_is_less : List Str := ["one", "other"]
theorem sc_is_less : FnScope n_is_less ["one", "other"] (defScope s_is_less) := ⟨rfl, rfl, rfl, by decide +kernel, rfl, by decide +kernel, by decide +kernel⟩
noncomputable def b_is_less : RS := retS (opN ltO [.ex (opN mulTO [.ex (opN ixO [.nm 0, .ex (cE (nD 0))]), .ex (opN ixO [.nm 1, .ex (cE (nD 1))])]), .ex (opN mulTO [.ex (opN ixO [.nm 1, .ex (cE (nD 0))]), .ex (opN ixO [.nm 0, .ex (cE (nD 1))])])])
noncomputable def d_is_less : DF := runB 2 b_is_less
theorem ok_is_less (B : NoB mg) (F : Own K mg "is_less" s_is_less)  : Cal P w K mg base "is_less" 1 ["one", "other"] (spD K [] 2 d_is_less) :=
  cal_den F sc_is_less rfl (by decide) (fun _ _ _ _ _ _ us hl => match us, hl with | [_, _], _ => rfl) fun f cdv A outer s H σ0 hr =>
    (s_one (s_ret (e_cmp op_lt (sem_cmp _) rfl (e_bin op_mulT sem_mulT (e_ix (fun _ _ => rfl) (pv 0) e_int) (e_ix (fun _ _ => rfl) (pv 1) e_int)) (e_bin op_mulT sem_mulT (e_ix (fun _ _ => rfl) (pv 1) e_int) (e_ix (fun _ _ => rfl) (pv 0) e_int)))))
/-! ### greater_of -/
abbrev s_greater_of : Stmt := topS 4
abbrev n_greater_of : List Str := ["one", "other"]
theorem sc_greater_of : FnScope n_greater_of ["one", "other"] (defScope s_greater_of) := ⟨rfl, rfl, rfl, by decide +kernel, rfl, by decide +kernel, by decide +kernel⟩
noncomputable def b_greater_of : RS := retS (ifE (tst (callE d_is_less [.nm 0, .nm 1])) (nmE 1) (nmE 0))
noncomputable def d_greater_of : DF := runB 2 b_greater_of
theorem ok_greater_of (B : NoB mg) (F : Own K mg "greater_of" s_greater_of) (C_is_less : Cal P w K mg base "is_less" 1 ["one", "other"] (spD K [] 2 d_is_less)) : Cal P w K mg base "greater_of" 2 ["one", "other"] (spD K [] 2 d_greater_of) :=
  cal_den F sc_greater_of rfl (by decide) (fun _ _ _ _ _ _ us hl => match us, hl with | [_, _], _ => rfl) fun f cdv A outer s H σ0 hr =>
    (s_one (s_ret (e_if (t_val (c_call C_is_less hr (by decide) (by rfl) (a_cons (pv 0) (a_cons (pv 1) a_nil)))) (e_nm (pv 1)) (e_nm (pv 0)))))
/-! ### stake_mean -/
abbrev s_stake_mean : Stmt := topS 6
abbrev n_stake_mean : List Str := ["p", "row", "i", "s", "above", "one", "other"]
theorem sc_stake_mean : FnScope n_stake_mean ["p", "row", "i", "s"] (defScope s_stake_mean) := ⟨rfl, rfl, rfl, by decide +kernel, rfl, by decide +kernel, by decide +kernel⟩
noncomputable def b_stake_mean : RS := seqS (parV 5 6 [.ex (opN ixO [.nm 1, .ex (opN addO [.nm 2, .nm 3])]), .ex (opN ixO [.nm 1, .ex (opN subO [.nm 2, .nm 3])])]) (seqS (asgS 4 (opN addO [.ex (opN mulTO [.ex (opN mulTO [.ex (opN ixO [.nm 0, .ex (cE (nD 0))]), .ex (opN ixO [.nm 5, .ex (cE (nD 0))])]), .ex (opN ixO [.nm 6, .ex (cE (nD 1))])]), .ex (opN mulTO [.ex (opN mulTO [.ex (opN subO [.ex (opN ixO [.nm 0, .ex (cE (nD 1))]), .ex (opN ixO [.nm 0, .ex (cE (nD 0))])]), .ex (opN ixO [.nm 6, .ex (cE (nD 0))])]), .ex (opN ixO [.nm 5, .ex (cE (nD 1))])])])) (retS (callE d_stop_pair [.nm 4, .ex (opN mulTO [.ex (opN mulTO [.ex (opN ixO [.nm 0, .ex (cE (nD 1))]), .ex (opN ixO [.nm 5, .ex (cE (nD 1))])]), .ex (opN ixO [.nm 6, .ex (cE (nD 1))])])])))
noncomputable def d_stake_mean : DF := runB 7 b_stake_mean
theorem ok_stake_mean (B : NoB mg) (F : Own K mg "stake_mean" s_stake_mean) (C_stop_pair : Cal P w K mg base "stop_pair" 2 ["above", "below"] (spD K [] 2 d_stop_pair)) : Cal P w K mg base "stake_mean" 3 ["p", "row", "i", "s"] (spD K [] 4 d_stake_mean) :=
  cal_den F sc_stake_mean rfl (by decide) (fun _ _ _ _ _ _ us hl => match us, hl with | [_, _, _, _], _ => rfl) fun f cdv A outer s H σ0 hr =>
    (s_cons (s_parV rfl sc_stake_mean.nd (i := 5) (j := 6) rfl rfl (by decide) (by decide) (by decide) rfl rfl (a_cons (e_ix (fun _ _ => rfl) (pv 1) (e_bin op_addU sem_add (pv 2) (pv 3))) (a_cons (e_ix (fun _ _ => rfl) (pv 1) (e_bin op_sub sem_sub (pv 2) (pv 3))) a_nil)) (by rfl)) (s_cons (s_asg sc_stake_mean.nd (i := 4) rfl (.inl rfl) (by decide) (e_bin op_addU sem_add (e_bin op_mulT sem_mulT (e_bin op_mulT sem_mulT (e_ix (fun _ _ => rfl) (pv 0) e_int) (e_ix (fun _ _ => rfl) (pv 5) e_int)) (e_ix (fun _ _ => rfl) (pv 6) e_int)) (e_bin op_mulT sem_mulT (e_bin op_mulT sem_mulT (e_bin op_sub sem_sub (e_ix (fun _ _ => rfl) (pv 0) e_int) (e_ix (fun _ _ => rfl) (pv 0) e_int)) (e_ix (fun _ _ => rfl) (pv 6) e_int)) (e_ix (fun _ _ => rfl) (pv 5) e_int)))) (s_one (s_ret (c_call C_stop_pair hr (by decide) (by rfl) (a_cons (pv 4) (a_cons (e_bin op_mulT sem_mulT (e_bin op_mulT sem_mulT (e_ix (fun _ _ => rfl) (pv 0) e_int) (e_ix (fun _ _ => rfl) (pv 5) e_int)) (e_ix (fun _ _ => rfl) (pv 6) e_int)) a_nil)))))))
/-! ### stakes_let -/
abbrev s_stakes_let : Stmt := topS 7
abbrev n_stakes_let : List Str := ["N", "i"]
theorem sc_stakes_let : FnScope n_stakes_let ["N", "i"] (defScope s_stakes_let) := ⟨rfl, rfl, rfl, by decide +kernel, rfl, by decide +kernel, by decide +kernel⟩
noncomputable def b_stakes_let : RS := retS (opN tupRg1 [.ex (opN addO [.ex (opN min2O [.nm 1, .ex (opN subO [.nm 0, .nm 1])]), .ex (cE (nD 1))])])
noncomputable def d_stakes_let : DF := runB 2 b_stakes_let
theorem ok_stakes_let (B : NoB mg) (F : Own K mg "stakes_let" s_stakes_let)  : Cal P w K mg base "stakes_let" 1 ["N", "i"] (spD K [] 2 d_stakes_let) :=
  cal_den F sc_stakes_let rfl (by decide) (fun _ _ _ _ _ _ us hl => match us, hl with | [_, _], _ => rfl) fun f cdv A outer s H σ0 hr =>
    (s_one (s_ret (e_tupRg1 rfl (by rfl) B.b_tuple (by rfl) B.b_range (e_bin op_addU sem_add (e_op (pe_callB (call_min2 rfl) (by rfl) B.b_min (by decide +kernel) (a_cons (pv 1) (a_cons (e_bin op_sub sem_sub (pv 0) (pv 1)) a_nil))) sem_min2) e_int))))
/-! ### first_row -/
abbrev s_first_row : Stmt := topS 8
abbrev n_first_row : List Str := ["N"]
theorem sc_first_row : FnScope n_first_row ["N"] (defScope s_first_row) := ⟨rfl, rfl, rfl, by decide +kernel, rfl, by decide +kernel, by decide +kernel⟩
noncomputable def b_first_row : RS := retS (opN addO [.ex (opN mulTO [.ex (opF tupD [.ex (opF tupD [.ex (cE (nD 0)), .ex (cE (nD 1))])]), .nm 0]), .ex (opF tupD [.ex (opF tupD [.ex (cE (nD 1)), .ex (cE (nD 1))])])])
noncomputable def d_first_row : DF := runB 1 b_first_row
theorem ok_first_row (B : NoB mg) (F : Own K mg "first_row" s_first_row)  : Cal P w K mg base "first_row" 1 ["N"] (spD K [] 1 d_first_row) :=
  cal_den F sc_first_row rfl (by decide) (fun _ _ _ _ _ _ us hl => match us, hl with | [_], _ => rfl) fun f cdv A outer s H σ0 hr =>
    (s_one (s_ret (e_bin op_addU sem_add (e_bin op_mulT sem_mulT (e_tup (a_cons (e_tup (a_cons e_int (a_cons e_int a_nil))) a_nil)) (pv 0)) (e_tup (a_cons (e_tup (a_cons e_int (a_cons e_int a_nil))) a_nil)))))
/-! ### best_within -/
abbrev s_best_within : Stmt := topS 9
abbrev n_best_within : List Str := ["p", "N", "n", "row", "lap", "late", "i", "best", "s"]
theorem sc_best_within : FnScope n_best_within ["p", "N", "n"] (defScope s_best_within) := ⟨rfl, rfl, rfl, by decide +kernel, rfl, by decide +kernel, by decide +kernel⟩
noncomputable def b_best_within : RS := seqS (asgS 3 (callE d_first_row [.nm 1])) (seqS (forS (opI rng1 [.nm 2]) (nmT 4) (seqS (asgS 5 (opF lstD [])) (seqS (forS (opI rng1 [.ex (opN addO [.nm 1, .ex (cE (nD 1))])]) (nmT 6) (seqS (asgS 7 (opF tupD [.ex (cE (nD 0)), .ex (cE (nD 1))])) (seqS (forS (seqI (fzE (callE d_stakes_let [.nm 1, .nm 6]))) (nmT 8) (asgS 7 (callE d_greater_of [.nm 7, .ex (callE d_stake_mean [.nm 0, .nm 3, .nm 6, .nm 8])]))) (expS (appE 5 (nmE 7)))))) (asgS 3 (opN tupleO [.nm 5]))))) (retS (mvE 3)))
noncomputable def d_best_within : DF := runB 9 b_best_within
theorem ok_best_within (B : NoB mg) (F : Own K mg "best_within" s_best_within) (C_first_row : Cal P w K mg base "first_row" 1 ["N"] (spD K [] 1 d_first_row)) (C_stakes_let : Cal P w K mg base "stakes_let" 1 ["N", "i"] (spD K [] 2 d_stakes_let)) (C_greater_of : Cal P w K mg base "greater_of" 2 ["one", "other"] (spD K [] 2 d_greater_of)) (C_stake_mean : Cal P w K mg base "stake_mean" 3 ["p", "row", "i", "s"] (spD K [] 4 d_stake_mean)) : Cal P w K mg base "best_within" 4 ["p", "N", "n"] (spD K [] 3 d_best_within) :=
  cal_den F sc_best_within rfl (by decide) (fun _ _ _ _ _ _ us hl => match us, hl with | [_, _, _], _ => rfl) fun f cdv A outer s H σ0 hr =>
    (s_cons (s_asg sc_best_within.nd (i := 3) rfl (.inl rfl) (by decide) (c_call C_first_row hr (by decide) (by rfl) (a_cons (pv 1) a_nil))) (s_cons (s_for PassesOwn.never rfl (i_rng1 (by rfl) B.b_range (pv 2)) (g_nm sc_best_within.nd (i := 4) rfl (Or.inl rfl) (by decide)) (s_cons (s_asg sc_best_within.nd (i := 5) rfl (.inl rfl) (by decide) (e_lst a_nil)) (s_cons (s_for PassesOwn.never rfl (i_rng1 (by rfl) B.b_range (e_bin op_addU sem_add (pv 1) e_int)) (g_nm sc_best_within.nd (i := 6) rfl (Or.inl rfl) (by decide)) (s_cons (s_asg sc_best_within.nd (i := 7) rfl (.inl rfl) (by decide) (e_tup (a_cons e_int (a_cons e_int a_nil)))) (s_cons (s_for PassesOwn.never rfl (i_seq (e_fz (c_call C_stakes_let hr (by decide) (by rfl) (a_cons (pv 1) (a_cons (pv 6) a_nil))))) (g_nm sc_best_within.nd (i := 8) rfl (Or.inl rfl) (by decide)) (s_one (s_asg sc_best_within.nd (i := 7) rfl (.inl rfl) (by decide) (c_call C_greater_of hr (by decide) (by rfl) (a_cons (pv 7) (a_cons (c_call C_stake_mean hr (by decide) (by rfl) (a_cons (pv 0) (a_cons (pv 3) (a_cons (pv 6) (a_cons (pv 8) a_nil))))) a_nil)))))) (s_one (s_exp (e_append (pv 5) (e_nm (pv 7)))))))) (s_one (s_asg sc_best_within.nd (i := 3) rfl (.inl rfl) (by decide) (e_op (pe_callTy call_tuple_of (by rfl) B.b_tuple (by decide +kernel) (a_cons (pv 5) a_nil)) sem_tuple)))))) (s_one (s_ret (e_mv (pv 3))))))
/-! ### bold_within -/
abbrev s_bold_within : Stmt := topS 10
abbrev n_bold_within : List Str := ["p", "N", "n", "row", "lap", "i"]
theorem sc_bold_within : FnScope n_bold_within ["p", "N", "n"] (defScope s_bold_within) := ⟨rfl, rfl, rfl, by decide +kernel, rfl, by decide +kernel, by decide +kernel⟩
noncomputable def b_bold_within : RS := seqS (asgS 3 (callE d_first_row [.nm 1])) (seqS (forS (opI rng1 [.nm 2]) (nmT 4) (asgS 3 (opN tupleO [.ex (lcE (opI rng1 [.ex (opN addO [.nm 1, .ex (cE (nD 1))])]) (nmT 5) (yesT) (callE d_stake_mean [.nm 0, .nm 3, .nm 5, .ex (opN min2O [.nm 5, .ex (opN subO [.nm 1, .nm 5])])]) [5])]))) (retS (mvE 3)))
noncomputable def d_bold_within : DF := runB 6 b_bold_within
theorem ok_bold_within (B : NoB mg) (F : Own K mg "bold_within" s_bold_within) (C_first_row : Cal P w K mg base "first_row" 1 ["N"] (spD K [] 1 d_first_row)) (C_stake_mean : Cal P w K mg base "stake_mean" 3 ["p", "row", "i", "s"] (spD K [] 4 d_stake_mean)) : Cal P w K mg base "bold_within" 4 ["p", "N", "n"] (spD K [] 3 d_bold_within) :=
  cal_den F sc_bold_within rfl (by decide) (fun _ _ _ _ _ _ us hl => match us, hl with | [_, _, _], _ => rfl) fun f cdv A outer s H σ0 hr =>
    (s_cons (s_asg sc_bold_within.nd (i := 3) rfl (.inr rfl) (by decide) (c_call C_first_row hr (by decide) (by rfl) (a_cons (pv 1) a_nil))) (s_cons (s_for PassesOwn.never rfl (i_rng1 (by rfl) B.b_range (pv 2)) (g_nm sc_bold_within.nd (i := 4) rfl (Or.inl rfl) (by decide)) (s_one (s_asg sc_bold_within.nd (i := 3) rfl (.inr rfl) (by decide) (e_op (pe_callTy call_tuple_of (by rfl) B.b_tuple (by decide +kernel) (a_cons (e_lc rfl sc_bold_within.nd (own := [("i", 5)]) (show blkC n_bold_within (defScope s_bold_within) _ _ = true from by decide +kernel) (by decide) (by decide) (i_rng1 (by rfl) B.b_range (e_bin op_addU sem_add (pv 1) e_int)) (fun _ _ _ _ _ => (g_nm sc_bold_within.nd (i := 5) rfl (Or.inl rfl) (by decide))) (fun _ _ _ _ _ => ts_nil) (fun _ _ _ _ _ => (c_call C_stake_mean hr (by decide) (by rfl) (a_cons (pv 0) (a_cons (pv 3) (a_cons (pv 5) (a_cons (e_op (pe_callB (call_min2 rfl) (by rfl) B.b_min (by decide +kernel) (a_cons (pv 5) (a_cons (e_bin op_sub sem_sub (pv 1) (pv 5)) a_nil))) sem_min2) a_nil))))))) a_nil)) sem_tuple)))) (s_one (s_ret (e_mv (pv 3))))))
/-! ### led_back -/
abbrev s_led_back : Stmt := topS 13
abbrev n_led_back : List Str := ["p", "N", "i", "late"]
theorem sc_led_back : FnScope n_led_back ["p", "N", "i", "late"] (defScope s_led_back) := ⟨rfl, rfl, rfl, by decide +kernel, rfl, by decide +kernel, by decide +kernel⟩
noncomputable def b_led_back : RS := seqS (ifS (tst (opN leO [.ex (opN mulTO [.ex (cE (nD 2)), .nm 2]), .nm 1])) (retS (callE d_stop_pair [.ex (opN mulTO [.ex (opN ixO [.nm 0, .ex (cE (nD 0))]), .ex (opN ixO [.nm 3, .ex (cE (nD 0))])]), .ex (opN mulTO [.ex (opN ixO [.nm 0, .ex (cE (nD 1))]), .ex (opN ixO [.nm 3, .ex (cE (nD 1))])])])) (nilS)) (retS (callE d_stop_pair [.ex (opN addO [.ex (opN mulTO [.ex (opN ixO [.nm 0, .ex (cE (nD 0))]), .ex (opN ixO [.nm 3, .ex (cE (nD 1))])]), .ex (opN mulTO [.ex (opN subO [.ex (opN ixO [.nm 0, .ex (cE (nD 1))]), .ex (opN ixO [.nm 0, .ex (cE (nD 0))])]), .ex (opN ixO [.nm 3, .ex (cE (nD 0))])])]), .ex (opN mulTO [.ex (opN ixO [.nm 0, .ex (cE (nD 1))]), .ex (opN ixO [.nm 3, .ex (cE (nD 1))])])]))
noncomputable def d_led_back : DF := runB 4 b_led_back
theorem ok_led_back (B : NoB mg) (F : Own K mg "led_back" s_led_back) (C_stop_pair : Cal P w K mg base "stop_pair" 2 ["above", "below"] (spD K [] 2 d_stop_pair)) : Cal P w K mg base "led_back" 3 ["p", "N", "i", "late"] (spD K [] 4 d_led_back) :=
  cal_den F sc_led_back rfl (by decide) (fun _ _ _ _ _ _ us hl => match us, hl with | [_, _, _, _], _ => rfl) fun f cdv A outer s H σ0 hr =>
    (s_cons (s_if (t_cmp op_le (sem_cmp _) rfl (e_bin op_mulT sem_mulT e_int (pv 2)) (pv 1)) (s_one (s_ret (c_call C_stop_pair hr (by decide) (by rfl) (a_cons (e_bin op_mulT sem_mulT (e_ix (fun _ _ => rfl) (pv 0) e_int) (e_ix (fun _ _ => rfl) (pv 3) e_int)) (a_cons (e_bin op_mulT sem_mulT (e_ix (fun _ _ => rfl) (pv 0) e_int) (e_ix (fun _ _ => rfl) (pv 3) e_int)) a_nil))))) s_nil) (s_one (s_ret (c_call C_stop_pair hr (by decide) (by rfl) (a_cons (e_bin op_addU sem_add (e_bin op_mulT sem_mulT (e_ix (fun _ _ => rfl) (pv 0) e_int) (e_ix (fun _ _ => rfl) (pv 3) e_int)) (e_bin op_mulT sem_mulT (e_bin op_sub sem_sub (e_ix (fun _ _ => rfl) (pv 0) e_int) (e_ix (fun _ _ => rfl) (pv 0) e_int)) (e_ix (fun _ _ => rfl) (pv 3) e_int))) (a_cons (e_bin op_mulT sem_mulT (e_ix (fun _ _ => rfl) (pv 0) e_int) (e_ix (fun _ _ => rfl) (pv 3) e_int)) a_nil))))))
/-! ### round_chance -/
abbrev s_round_chance : Stmt := topS 14
abbrev n_round_chance : List Str := ["p", "N", "way", "i", "below", "step", "nothing", "all_of_it"]
theorem sc_round_chance : FnScope n_round_chance ["p", "N", "way"] (defScope s_round_chance) := ⟨rfl, rfl, rfl, by decide +kernel, rfl, by decide +kernel, by decide +kernel⟩
noncomputable def b_round_chance : RS := seqS (asgT (opF tupD [.ex (opF tupD [.ex (cE (nD 0)), .ex (cE (nD 1))]), .ex (opF tupD [.ex (cE (nD 1)), .ex (cE (nD 1))])]) (tupT [nmT 6, nmT 7])) (seqS (forS (seqI (fzE (opN revO [.nm 2]))) (nmT 3) (parV 6 7 [.ex (callE d_led_back [.nm 0, .nm 1, .nm 3, .nm 6]), .ex (callE d_led_back [.nm 0, .nm 1, .nm 3, .nm 7])])) (seqS (asgS 4 (opN mulTO [.ex (opN ixO [.nm 6, .ex (cE (nD 1))]), .ex (opN ixO [.nm 7, .ex (cE (nD 1))])])) (seqS (asgS 5 (opN subO [.ex (opN mulTO [.ex (opN ixO [.nm 7, .ex (cE (nD 0))]), .ex (opN ixO [.nm 6, .ex (cE (nD 1))])]), .ex (opN mulTO [.ex (opN ixO [.nm 6, .ex (cE (nD 0))]), .ex (opN ixO [.nm 7, .ex (cE (nD 1))])])])) (retS (callE d_stop_pair [.ex (opN mulTO [.ex (opN ixO [.nm 6, .ex (cE (nD 0))]), .nm 4]), .ex (opN mulTO [.ex (opN ixO [.nm 6, .ex (cE (nD 1))]), .ex (opN subO [.nm 4, .nm 5])])])))))
noncomputable def d_round_chance : DF := runB 8 b_round_chance
theorem ok_round_chance (B : NoB mg) (F : Own K mg "round_chance" s_round_chance) (C_led_back : Cal P w K mg base "led_back" 3 ["p", "N", "i", "late"] (spD K [] 4 d_led_back)) (C_stop_pair : Cal P w K mg base "stop_pair" 2 ["above", "below"] (spD K [] 2 d_stop_pair)) : Cal P w K mg base "round_chance" 4 ["p", "N", "way"] (spD K [] 3 d_round_chance) :=
  cal_den F sc_round_chance rfl (by decide) (fun _ _ _ _ _ _ us hl => match us, hl with | [_, _, _], _ => rfl) fun f cdv A outer s H σ0 hr =>
    (s_cons (s_asgT (e_tup (a_cons (e_tup (a_cons e_int (a_cons e_int a_nil))) (a_cons (e_tup (a_cons e_int (a_cons e_int a_nil))) a_nil))) (g_tup rfl (g_cons (g_nm sc_round_chance.nd (i := 6) rfl (Or.inl rfl) (by decide)) (g_cons (g_nm sc_round_chance.nd (i := 7) rfl (Or.inl rfl) (by decide)) g_nil)))) (s_cons (s_for PassesOwn.never rfl (i_seq (e_fz (e_rev (pv 2)))) (g_nm sc_round_chance.nd (i := 3) rfl (Or.inl rfl) (by decide)) (s_one (s_parV rfl sc_round_chance.nd (i := 6) (j := 7) rfl rfl (by decide) (by decide) (by decide) rfl rfl (a_cons (c_call C_led_back hr (by decide) (by rfl) (a_cons (pv 0) (a_cons (pv 1) (a_cons (pv 3) (a_cons (pv 6) a_nil))))) (a_cons (c_call C_led_back hr (by decide) (by rfl) (a_cons (pv 0) (a_cons (pv 1) (a_cons (pv 3) (a_cons (pv 7) a_nil))))) a_nil)) (by rfl)))) (s_cons (s_asg sc_round_chance.nd (i := 4) rfl (.inl rfl) (by decide) (e_bin op_mulT sem_mulT (e_ix (fun _ _ => rfl) (pv 6) e_int) (e_ix (fun _ _ => rfl) (pv 7) e_int))) (s_cons (s_asg sc_round_chance.nd (i := 5) rfl (.inl rfl) (by decide) (e_bin op_sub sem_sub (e_bin op_mulT sem_mulT (e_ix (fun _ _ => rfl) (pv 7) e_int) (e_ix (fun _ _ => rfl) (pv 6) e_int)) (e_bin op_mulT sem_mulT (e_ix (fun _ _ => rfl) (pv 6) e_int) (e_ix (fun _ _ => rfl) (pv 7) e_int)))) (s_one (s_ret (c_call C_stop_pair hr (by decide) (by rfl) (a_cons (e_bin op_mulT sem_mulT (e_ix (fun _ _ => rfl) (pv 6) e_int) (pv 4)) (a_cons (e_bin op_mulT sem_mulT (e_ix (fun _ _ => rfl) (pv 6) e_int) (e_bin op_sub sem_sub (pv 4) (pv 5))) a_nil)))))))))
/-! ### bold_chance -/
abbrev s_bold_chance : Stmt := topS 12
abbrev n_bold_chance : List Str := ["p", "N", "i", "start", "last", "one", "way", "here"]
theorem sc_bold_chance : FnScope n_bold_chance ["p", "N", "i"] (defScope s_bold_chance) := ⟨rfl, rfl, rfl, by decide +kernel, rfl, by decide +kernel, by decide +kernel⟩
noncomputable def b_bold_chance : RS := seqS (ifS (tst (opN inO [.nm 2, .ex (opF tupD [.ex (cE (nD 0)), .ex (nmE 1)])])) (retS (opF tupD [.ex (fzE (opN fdivO [.nm 2, .nm 1])), .ex (cE (nD 1))])) (nilS)) (seqS (parV 6 7 [.ex (opF lstD []), .ex (nmE 2)]) (seqS (whileS (andT (tst (opN notinO [.nm 7, .nm 6])) (tst (opN notinO [.nm 7, .ex (opF tupD [.ex (cE (nD 0)), .ex (nmE 1)])]))) (seqS (expS (appE 6 (nmE 7))) (asgS 7 (ifE (tst (opN leO [.ex (opN mulTO [.ex (cE (nD 2)), .nm 7]), .nm 1])) (opN mulTO [.ex (cE (nD 2)), .nm 7]) (opN subO [.ex (opN mulTO [.ex (cE (nD 2)), .nm 7]), .nm 1]))))) (seqS (asgS 3 (ifE (tst (opN inO [.nm 7, .nm 6])) (methL 6 indexO [.nm 7]) (opN lenO [.nm 6]))) (seqS (asgS 4 (ifE (orT (tst (opN inO [.nm 7, .nm 6])) (tst (opN eqsO [.nm 7, .ex (cE (nD 0))]))) (opF tupD [.ex (cE (nD 0)), .ex (cE (nD 1))]) (opF tupD [.ex (cE (nD 1)), .ex (cE (nD 1))]))) (seqS (ifS (tst (opN inO [.nm 7, .nm 6])) (asgS 4 (callE d_round_chance [.nm 0, .nm 1, .ex (opN cutLoO [.nm 6, .nm 3])])) (nilS)) (seqS (forS (seqI (fzE (opN revO [.ex (opN cutHiO [.nm 6, .nm 3])]))) (nmT 5) (asgS 4 (callE d_led_back [.nm 0, .nm 1, .nm 5, .nm 4]))) (retS (mvE 4))))))))
noncomputable def d_bold_chance : DF := runB 8 b_bold_chance
theorem ok_bold_chance (B : NoB mg) (F : Own K mg "bold_chance" s_bold_chance) (C_round_chance : Cal P w K mg base "round_chance" 4 ["p", "N", "way"] (spD K [] 3 d_round_chance)) (C_led_back : Cal P w K mg base "led_back" 3 ["p", "N", "i", "late"] (spD K [] 4 d_led_back)) : Cal P w K mg base "bold_chance" 5 ["p", "N", "i"] (spD K [] 3 d_bold_chance) :=
  cal_den F sc_bold_chance rfl (by decide) (fun _ _ _ _ _ _ us hl => match us, hl with | [_, _, _], _ => rfl) fun f cdv A outer s H σ0 hr =>
    (s_cons (s_if (t_cmp (op_inU hr.u65) sem_in rfl (pv 2) (e_tup (a_cons e_int (a_cons (e_nm (pv 1)) a_nil)))) (s_one (s_ret (e_tup (a_cons (e_fz (e_bin op_fdivU sem_fdiv (pv 2) (pv 1))) (a_cons e_int a_nil))))) s_nil) (s_cons (s_parV rfl sc_bold_chance.nd (i := 6) (j := 7) rfl rfl (by decide) (by decide) (by decide) rfl rfl (a_cons (e_lst a_nil) (a_cons (e_nm (pv 2)) a_nil)) (by rfl)) (s_cons (s_while PassesOwn.never (PW.pt (t_and (t_cmp (op_notinU hr.u65) sem_notin rfl (pv 7) (pv 6)) (t_and1 (t_cmp (op_notinU hr.u65) sem_notin rfl (pv 7) (e_tup (a_cons e_int (a_cons (e_nm (pv 1)) a_nil))))))) (s_cons (s_exp (e_append (pv 6) (e_nm (pv 7)))) (s_one (s_asg sc_bold_chance.nd (i := 7) rfl (.inl rfl) (by decide) (e_if (t_cmp op_le (sem_cmp _) rfl (e_bin op_mulT sem_mulT e_int (pv 7)) (pv 1)) (e_bin op_mulT sem_mulT e_int (pv 7)) (e_bin op_sub sem_sub (e_bin op_mulT sem_mulT e_int (pv 7)) (pv 1))))))) (s_cons (s_asg sc_bold_chance.nd (i := 3) rfl (.inl rfl) (by decide) (e_if (t_cmp (op_inU hr.u65) sem_in rfl (pv 7) (pv 6)) (e_index hr (pv 6) (a_cons (pv 7) a_nil)) (e_op (pe_callB call_lenU (by rfl) B.b_len (by decide +kernel) (a_cons (pv 6) a_nil)) sem_len))) (s_cons (s_asg sc_bold_chance.nd (i := 4) rfl (.inl rfl) (by decide) (e_if (PW.pt (t_or (t_cmp (op_inU hr.u65) sem_in rfl (pv 7) (pv 6)) (t_or1 (t_cmp (op_eqS hr.u64) sem_eqS rfl (pv 7) e_int)))) (e_tup (a_cons e_int (a_cons e_int a_nil))) (e_tup (a_cons e_int (a_cons e_int a_nil))))) (s_cons (s_if (t_cmp (op_inU hr.u65) sem_in rfl (pv 7) (pv 6)) (s_one (s_asg sc_bold_chance.nd (i := 4) rfl (.inl rfl) (by decide) (c_call C_round_chance hr (by decide) (by rfl) (a_cons (pv 0) (a_cons (pv 1) (a_cons (e_lo (pv 6) (pv 3)) a_nil)))))) s_nil) (s_cons (s_for PassesOwn.never rfl (i_seq (e_fz (e_rev (e_hi (pv 6) (pv 3))))) (g_nm sc_bold_chance.nd (i := 5) rfl (Or.inl rfl) (by decide)) (s_one (s_asg sc_bold_chance.nd (i := 4) rfl (.inl rfl) (by decide) (c_call C_led_back hr (by decide) (by rfl) (a_cons (pv 0) (a_cons (pv 1) (a_cons (pv 5) (a_cons (pv 4) a_nil)))))))) (s_one (s_ret (e_mv (pv 4)))))))))))
/-! ### bold_row -/
abbrev s_bold_row : Stmt := topS 15
abbrev n_bold_row : List Str := ["p", "N", "i"]
theorem sc_bold_row : FnScope n_bold_row ["p", "N"] (defScope s_bold_row) := ⟨rfl, rfl, rfl, by decide +kernel, rfl, by decide +kernel, by decide +kernel⟩
noncomputable def b_bold_row : RS := retS (opN tupleO [.ex (lcE (opI rng1 [.ex (opN addO [.nm 1, .ex (cE (nD 1))])]) (nmT 2) (yesT) (callE d_bold_chance [.nm 0, .nm 1, .nm 2]) [2])])
noncomputable def d_bold_row : DF := runB 3 b_bold_row
theorem ok_bold_row (B : NoB mg) (F : Own K mg "bold_row" s_bold_row) (C_bold_chance : Cal P w K mg base "bold_chance" 5 ["p", "N", "i"] (spD K [] 3 d_bold_chance)) : Cal P w K mg base "bold_row" 6 ["p", "N"] (spD K [] 2 d_bold_row) :=
  cal_den F sc_bold_row rfl (by decide) (fun _ _ _ _ _ _ us hl => match us, hl with | [_, _], _ => rfl) fun f cdv A outer s H σ0 hr =>
    (s_one (s_ret (e_op (pe_callTy call_tuple_of (by rfl) B.b_tuple (by decide +kernel) (a_cons (e_lc rfl sc_bold_row.nd (own := [("i", 2)]) (show blkC n_bold_row (defScope s_bold_row) _ _ = true from by decide +kernel) (by decide) (by decide) (i_rng1 (by rfl) B.b_range (e_bin op_addU sem_add (pv 1) e_int)) (fun _ _ _ _ _ => (g_nm sc_bold_row.nd (i := 2) rfl (Or.inl rfl) (by decide))) (fun _ _ _ _ _ => ts_nil) (fun _ _ _ _ _ => (c_call C_bold_chance hr (by decide) (by rfl) (a_cons (pv 0) (a_cons (pv 1) (a_cons (pv 2) a_nil)))))) a_nil)) sem_tuple)))
/-! ### power_of -/
abbrev s_power_of : Stmt := topS 16
abbrev n_power_of : List Str := ["x", "e", "found", "lap"]
theorem sc_power_of : FnScope n_power_of ["x", "e"] (defScope s_power_of) := ⟨rfl, rfl, rfl, by decide +kernel, rfl, by decide +kernel, by decide +kernel⟩
noncomputable def b_power_of : RS := seqS (asgS 2 (cE (nD 1))) (seqS (forS (opI rng1 [.nm 1]) (nmT 3) (asgS 2 (opN mulTO [.nm 2, .nm 0]))) (retS (mvE 2)))
noncomputable def d_power_of : DF := runB 4 b_power_of
theorem ok_power_of (B : NoB mg) (F : Own K mg "power_of" s_power_of)  : Cal P w K mg base "power_of" 1 ["x", "e"] (spD K [] 2 d_power_of) :=
  cal_den F sc_power_of rfl (by decide) (fun _ _ _ _ _ _ us hl => match us, hl with | [_, _], _ => rfl) fun f cdv A outer s H σ0 hr =>
    (s_cons (s_asg sc_power_of.nd (i := 2) rfl (.inl rfl) (by decide) e_int) (s_cons (s_for PassesOwn.never rfl (i_rng1 (by rfl) B.b_range (pv 1)) (g_nm sc_power_of.nd (i := 3) rfl (Or.inl rfl) (by decide)) (s_one (s_asg sc_power_of.nd (i := 2) rfl (.inl rfl) (by decide) (e_bin op_mulT sem_mulT (pv 2) (pv 0))))) (s_one (s_ret (e_mv (pv 2))))))
/-! ### shy_chance -/
abbrev s_shy_chance : Stmt := topS 17
abbrev n_shy_chance : List Str := ["p", "N", "i", "above", "below", "good", "bad"]
theorem sc_shy_chance : FnScope n_shy_chance ["p", "N", "i"] (defScope s_shy_chance) := ⟨rfl, rfl, rfl, by decide +kernel, rfl, by decide +kernel, by decide +kernel⟩
noncomputable def b_shy_chance : RS := seqS (parV 5 6 [.ex (opN ixO [.nm 0, .ex (cE (nD 0))]), .ex (opN subO [.ex (opN ixO [.nm 0, .ex (cE (nD 1))]), .ex (opN ixO [.nm 0, .ex (cE (nD 0))])])]) (seqS (ifS (tst (opN eqsO [.nm 5, .nm 6])) (retS (callE d_stop_pair [.nm 2, .nm 1])) (nilS)) (seqS (asgS 3 (opN mulTO [.ex (opN subO [.ex (callE d_power_of [.nm 6, .nm 2]), .ex (callE d_power_of [.nm 5, .nm 2])]), .ex (callE d_power_of [.nm 5, .ex (opN subO [.nm 1, .nm 2])])])) (seqS (asgS 4 (opN subO [.ex (callE d_power_of [.nm 6, .nm 1]), .ex (callE d_power_of [.nm 5, .nm 1])])) (retS (callE d_stop_pair [.ex (opN absO [.nm 3]), .ex (opN absO [.nm 4])])))))
noncomputable def d_shy_chance : DF := runB 7 b_shy_chance
theorem ok_shy_chance (B : NoB mg) (F : Own K mg "shy_chance" s_shy_chance) (C_stop_pair : Cal P w K mg base "stop_pair" 2 ["above", "below"] (spD K [] 2 d_stop_pair)) (C_power_of : Cal P w K mg base "power_of" 1 ["x", "e"] (spD K [] 2 d_power_of)) : Cal P w K mg base "shy_chance" 3 ["p", "N", "i"] (spD K [] 3 d_shy_chance) :=
  cal_den F sc_shy_chance rfl (by decide) (fun _ _ _ _ _ _ us hl => match us, hl with | [_, _, _], _ => rfl) fun f cdv A outer s H σ0 hr =>
    (s_cons (s_parV rfl sc_shy_chance.nd (i := 5) (j := 6) rfl rfl (by decide) (by decide) (by decide) rfl rfl (a_cons (e_ix (fun _ _ => rfl) (pv 0) e_int) (a_cons (e_bin op_sub sem_sub (e_ix (fun _ _ => rfl) (pv 0) e_int) (e_ix (fun _ _ => rfl) (pv 0) e_int)) a_nil)) (by rfl)) (s_cons (s_if (t_cmp (op_eqS hr.u64) sem_eqS rfl (pv 5) (pv 6)) (s_one (s_ret (c_call C_stop_pair hr (by decide) (by rfl) (a_cons (pv 2) (a_cons (pv 1) a_nil))))) s_nil) (s_cons (s_asg sc_shy_chance.nd (i := 3) rfl (.inl rfl) (by decide) (e_bin op_mulT sem_mulT (e_bin op_sub sem_sub (c_call C_power_of hr (by decide) (by rfl) (a_cons (pv 6) (a_cons (pv 2) a_nil))) (c_call C_power_of hr (by decide) (by rfl) (a_cons (pv 5) (a_cons (pv 2) a_nil)))) (c_call C_power_of hr (by decide) (by rfl) (a_cons (pv 5) (a_cons (e_bin op_sub sem_sub (pv 1) (pv 2)) a_nil))))) (s_cons (s_asg sc_shy_chance.nd (i := 4) rfl (.inl rfl) (by decide) (e_bin op_sub sem_sub (c_call C_power_of hr (by decide) (by rfl) (a_cons (pv 6) (a_cons (pv 1) a_nil))) (c_call C_power_of hr (by decide) (by rfl) (a_cons (pv 5) (a_cons (pv 1) a_nil))))) (s_one (s_ret (c_call C_stop_pair hr (by decide) (by rfl) (a_cons (e_op (pe_callB call_abs (by rfl) B.b_abs (by decide +kernel) (a_cons (pv 3) a_nil)) sem_abs) (a_cons (e_op (pe_callB call_abs (by rfl) B.b_abs (by decide +kernel) (a_cons (pv 4) a_nil)) sem_abs) a_nil)))))))))
/-! ### shy_row -/
abbrev s_shy_row : Stmt := topS 18
abbrev n_shy_row : List Str := ["p", "N", "i"]
theorem sc_shy_row : FnScope n_shy_row ["p", "N"] (defScope s_shy_row) := ⟨rfl, rfl, rfl, by decide +kernel, rfl, by decide +kernel, by decide +kernel⟩
noncomputable def b_shy_row : RS := retS (opN tupleO [.ex (lcE (opI rng1 [.ex (opN addO [.nm 1, .ex (cE (nD 1))])]) (nmT 2) (yesT) (callE d_shy_chance [.nm 0, .nm 1, .nm 2]) [2])])
noncomputable def d_shy_row : DF := runB 3 b_shy_row
theorem ok_shy_row (B : NoB mg) (F : Own K mg "shy_row" s_shy_row) (C_shy_chance : Cal P w K mg base "shy_chance" 3 ["p", "N", "i"] (spD K [] 3 d_shy_chance)) : Cal P w K mg base "shy_row" 4 ["p", "N"] (spD K [] 2 d_shy_row) :=
  cal_den F sc_shy_row rfl (by decide) (fun _ _ _ _ _ _ us hl => match us, hl with | [_, _], _ => rfl) fun f cdv A outer s H σ0 hr =>
    (s_one (s_ret (e_op (pe_callTy call_tuple_of (by rfl) B.b_tuple (by decide +kernel) (a_cons (e_lc rfl sc_shy_row.nd (own := [("i", 2)]) (show blkC n_shy_row (defScope s_shy_row) _ _ = true from by decide +kernel) (by decide) (by decide) (i_rng1 (by rfl) B.b_range (e_bin op_addU sem_add (pv 1) e_int)) (fun _ _ _ _ _ => (g_nm sc_shy_row.nd (i := 2) rfl (Or.inl rfl) (by decide))) (fun _ _ _ _ _ => ts_nil) (fun _ _ _ _ _ => (c_call C_shy_chance hr (by decide) (by rfl) (a_cons (pv 0) (a_cons (pv 1) (a_cons (pv 2) a_nil)))))) a_nil)) sem_tuple)))
/-! ### greatest_row -/
abbrev s_greatest_row : Stmt := topS 19
abbrev n_greatest_row : List Str := ["p", "N"]
theorem sc_greatest_row : FnScope n_greatest_row ["p", "N"] (defScope s_greatest_row) := ⟨rfl, rfl, rfl, by decide +kernel, rfl, by decide +kernel, by decide +kernel⟩
noncomputable def b_greatest_row : RS := retS (ifE (tst (opN gtO [.ex (opN mulTO [.ex (cE (nD 2)), .ex (opN ixO [.nm 0, .ex (cE (nD 0))])]), .ex (opN ixO [.nm 0, .ex (cE (nD 1))])])) (callE d_shy_row [.nm 0, .nm 1]) (callE d_bold_row [.nm 0, .nm 1]))
noncomputable def d_greatest_row : DF := runB 2 b_greatest_row
theorem ok_greatest_row (B : NoB mg) (F : Own K mg "greatest_row" s_greatest_row) (C_shy_row : Cal P w K mg base "shy_row" 4 ["p", "N"] (spD K [] 2 d_shy_row)) (C_bold_row : Cal P w K mg base "bold_row" 6 ["p", "N"] (spD K [] 2 d_bold_row)) : Cal P w K mg base "greatest_row" 7 ["p", "N"] (spD K [] 2 d_greatest_row) :=
  cal_den F sc_greatest_row rfl (by decide) (fun _ _ _ _ _ _ us hl => match us, hl with | [_, _], _ => rfl) fun f cdv A outer s H σ0 hr =>
    (s_one (s_ret (e_if (t_cmp op_gt (sem_cmp _) rfl (e_bin op_mulT sem_mulT e_int (e_ix (fun _ _ => rfl) (pv 0) e_int)) (e_ix (fun _ _ => rfl) (pv 0) e_int)) (c_call C_shy_row hr (by decide) (by rfl) (a_cons (pv 0) (a_cons (pv 1) a_nil))) (c_call C_bold_row hr (by decide) (by rfl) (a_cons (pv 0) (a_cons (pv 1) a_nil))))))
/-! ### is_play_chance -/
abbrev s_is_play_chance : Stmt := topS 20
abbrev n_is_play_chance : List Str := ["value", "x"]
theorem sc_is_play_chance : FnScope n_is_play_chance ["value"] (defScope s_is_play_chance) := ⟨rfl, rfl, rfl, by decide +kernel, rfl, by decide +kernel, by decide +kernel⟩
noncomputable def b_is_play_chance : RS := seqS (ifS (orT (notT (tst (opN (isiO "tuple") [.nm 0]))) (tst (opN nesO [.ex (opN lenO [.nm 0]), .ex (cE (nD 2))]))) (retS (cE (.bool false))) (nilS)) (seqS (ifS (notT (tst (opN allO [.ex (lcE (seqI (nmE 0)) (nmT 1) (yesT) (andE (opN (isiO "int") [.nm 1]) (notE (opN (isiO "bool") [.nm 1]))) [1])]))) (retS (cE (.bool false))) (nilS)) (retS (andE (chainI leO leO (.ex (cE (nD 0))) (opN ixO [.nm 0, .ex (cE (nD 0))]) (.ex (opN ixO [.nm 0, .ex (cE (nD 1))]))) (andE (opN gtO [.ex (opN ixO [.nm 0, .ex (cE (nD 1))]), .ex (cE (nD 0))]) (opN eqsO [.ex (callE d_stop_divisor [.ex (opN ixO [.nm 0, .ex (cE (nD 0))]), .ex (opN ixO [.nm 0, .ex (cE (nD 1))])]), .ex (cE (nD 1))])))))
noncomputable def d_is_play_chance : DF := runB 2 b_is_play_chance
theorem ok_is_play_chance (B : NoB mg) (F : Own K mg "is_play_chance" s_is_play_chance) (C_stop_divisor : Cal P w K mg base "stop_divisor" 1 ["one", "other"] (spD K [] 2 d_stop_divisor)) : Cal P w K mg base "is_play_chance" 2 ["value"] (spD K [] 1 d_is_play_chance) :=
  cal_den F sc_is_play_chance rfl (by decide) (fun _ _ _ _ _ _ us hl => match us, hl with | [_], _ => rfl) fun f cdv A outer s H σ0 hr =>
    (s_cons (s_if (PW.pt (t_or (t_not (t_val (e_isi (by decide) (by rfl) B.b_isinstance (by rfl) B.b_tuple (by decide +kernel) (pv 0)))) (t_or1 (t_cmp (op_neS hr.u64) sem_neS rfl (e_op (pe_callB call_lenU (by rfl) B.b_len (by decide +kernel) (a_cons (pv 0) a_nil)) sem_len) e_int)))) (s_one (s_ret e_bl)) s_nil) (s_cons (s_if (t_not (t_val (e_op (pe_callB (cr_all rfl) (by rfl) B.b_all (by decide +kernel) (a_cons (e_lc rfl sc_is_play_chance.nd (own := [("x", 1)]) (show blkC n_is_play_chance (defScope s_is_play_chance) _ _ = true from by decide +kernel) (by decide) (by decide) (i_seq (e_nm (pv 0))) (fun _ _ _ _ _ => (g_nm sc_is_play_chance.nd (i := 1) rfl (Or.inl rfl) (by decide))) (fun _ _ _ _ _ => ts_nil) (fun _ _ _ _ _ => (e_and (e_isi (by decide) (by rfl) B.b_isinstance (by rfl) B.b_int (by decide +kernel) (pv 1)) (e_and1 (e_not (e_isi (by decide) (by rfl) B.b_isinstance (by rfl) B.b_bool (by decide +kernel) (pv 1))))))) a_nil)) sem_all))) (s_one (s_ret e_bl)) s_nil) (s_one (s_ret (e_and (e_chain op_le (sem_cmp _) op_le (sem_cmp _) e_int (e_ix (fun _ _ => rfl) (pv 0) e_int) (e_ix (fun _ _ => rfl) (pv 0) e_int)) (e_and (e_cmp op_gt (sem_cmp _) rfl (e_ix (fun _ _ => rfl) (pv 0) e_int) e_int) (e_and1 (e_cmp (op_eqS hr.u64) sem_eqS rfl (c_call C_stop_divisor hr (by decide) (by rfl) (a_cons (e_ix (fun _ _ => rfl) (pv 0) e_int) (a_cons (e_ix (fun _ _ => rfl) (pv 0) e_int) a_nil))) e_int))))))))
/-! ### judge_bound -/
abbrev s_judge_bound : Stmt := topS 21
abbrev n_judge_bound : List Str := ["p", "N", "value", "i", "s", "one"]
theorem sc_judge_bound : FnScope n_judge_bound ["p", "N", "value"] (defScope s_judge_bound) := ⟨rfl, rfl, rfl, by decide +kernel, rfl, by decide +kernel, by decide +kernel⟩
noncomputable def b_judge_bound : RS := seqS (ifS (orT (notT (tst (opN (isiO "tuple") [.nm 2]))) (orT (tst (opN nesO [.ex (opN lenO [.nm 2]), .ex (opN addO [.nm 1, .ex (cE (nD 1))])])) (notT (tst (opN allO [.ex (lcE (seqI (nmE 2)) (nmT 5) (yesT) (callE d_is_play_chance [.nm 5]) [5])]))))) (retS (opF tupD [.ex (cE (.str "form"))])) (nilS)) (seqS (ifS (tst (opN nesO [.ex (opN ixO [.nm 2, .nm 1]), .ex (opF tupD [.ex (cE (nD 1)), .ex (cE (nD 1))])])) (retS (opF tupD [.ex (cE (.str "end"))])) (nilS)) (seqS (forS (opI rng1 [.ex (opN addO [.nm 1, .ex (cE (nD 1))])]) (nmT 3) (forS (seqI (fzE (callE d_stakes_let [.nm 1, .nm 3]))) (nmT 4) (ifS (tst (callE d_is_less [.ex (opN ixO [.nm 2, .nm 3]), .ex (callE d_stake_mean [.nm 0, .nm 2, .nm 3, .nm 4])])) (retS (opF tupD [.ex (cE (.str "stake")), .ex (nmE 3), .ex (nmE 4)])) (nilS)))) (retS (cE .none))))
noncomputable def d_judge_bound : DF := runB 6 b_judge_bound
theorem ok_judge_bound (B : NoB mg) (F : Own K mg "judge_bound" s_judge_bound) (C_is_play_chance : Cal P w K mg base "is_play_chance" 2 ["value"] (spD K [] 1 d_is_play_chance)) (C_stakes_let : Cal P w K mg base "stakes_let" 1 ["N", "i"] (spD K [] 2 d_stakes_let)) (C_is_less : Cal P w K mg base "is_less" 1 ["one", "other"] (spD K [] 2 d_is_less)) (C_stake_mean : Cal P w K mg base "stake_mean" 3 ["p", "row", "i", "s"] (spD K [] 4 d_stake_mean)) : Cal P w K mg base "judge_bound" 4 ["p", "N", "value"] (spD K [] 3 d_judge_bound) :=
  cal_den F sc_judge_bound rfl (by decide) (fun _ _ _ _ _ _ us hl => match us, hl with | [_, _, _], _ => rfl) fun f cdv A outer s H σ0 hr =>
    (s_cons (s_if (PW.pt (t_or (t_not (t_val (e_isi (by decide) (by rfl) B.b_isinstance (by rfl) B.b_tuple (by decide +kernel) (pv 2)))) (t_or (t_cmp (op_neS hr.u64) sem_neS rfl (e_op (pe_callB call_lenU (by rfl) B.b_len (by decide +kernel) (a_cons (pv 2) a_nil)) sem_len) (e_bin op_addU sem_add (pv 1) e_int)) (t_or1 (t_not (t_val (e_op (pe_callB (cr_all rfl) (by rfl) B.b_all (by decide +kernel) (a_cons (e_lc rfl sc_judge_bound.nd (own := [("one", 5)]) (show blkC n_judge_bound (defScope s_judge_bound) _ _ = true from by decide +kernel) (by decide) (by decide) (i_seq (e_nm (pv 2))) (fun _ _ _ _ _ => (g_nm sc_judge_bound.nd (i := 5) rfl (Or.inl rfl) (by decide))) (fun _ _ _ _ _ => ts_nil) (fun _ _ _ _ _ => (c_call C_is_play_chance hr (by decide) (by rfl) (a_cons (pv 5) a_nil)))) a_nil)) sem_all))))))) (s_one (s_ret (e_tup (a_cons e_str a_nil)))) s_nil) (s_cons (s_if (t_cmp (op_neS hr.u64) sem_neS rfl (e_ix (fun _ _ => rfl) (pv 2) (pv 1)) (e_tup (a_cons e_int (a_cons e_int a_nil)))) (s_one (s_ret (e_tup (a_cons e_str a_nil)))) s_nil) (s_cons (s_for PassesOwn.never rfl (i_rng1 (by rfl) B.b_range (e_bin op_addU sem_add (pv 1) e_int)) (g_nm sc_judge_bound.nd (i := 3) rfl (Or.inl rfl) (by decide)) (s_one (s_for PassesOwn.never rfl (i_seq (e_fz (c_call C_stakes_let hr (by decide) (by rfl) (a_cons (pv 1) (a_cons (pv 3) a_nil))))) (g_nm sc_judge_bound.nd (i := 4) rfl (Or.inl rfl) (by decide)) (s_one (s_if (t_val (c_call C_is_less hr (by decide) (by rfl) (a_cons (e_ix (fun _ _ => rfl) (pv 2) (pv 3)) (a_cons (c_call C_stake_mean hr (by decide) (by rfl) (a_cons (pv 0) (a_cons (pv 2) (a_cons (pv 3) (a_cons (pv 4) a_nil))))) a_nil)))) (s_one (s_ret (e_tup (a_cons e_str (a_cons (e_nm (pv 3)) (a_cons (e_nm (pv 4)) a_nil)))))) s_nil))))) (s_one (s_ret e_non)))))
/-! ### _law_cut -/
abbrev s_law_cut : Stmt := topS 25
abbrev n_law_cut : List Str := ["above", "below", "a", "b"]
theorem sc_law_cut : FnScope n_law_cut ["above", "below"] (defScope s_law_cut) := ⟨rfl, rfl, rfl, by decide +kernel, rfl, by decide +kernel, by decide +kernel⟩
noncomputable def b_law_cut : RS := seqS (parV 2 3 [.ex (opN absO [.nm 0]), .ex (nmE 1)]) (seqS (whileS (tst (opN nesO [.nm 3, .ex (cE (nD 0))])) (parV 2 3 [.ex (nmE 3), .ex (opN modO [.nm 2, .nm 3])])) (seqS (asgS 2 (opN max2O [.ex (cE (nD 1)), .nm 2])) (retS (opF tupD [.ex (fzE (opN fdivO [.nm 0, .nm 2])), .ex (fzE (opN fdivO [.nm 1, .nm 2]))]))))
noncomputable def d_law_cut : DF := runB 4 b_law_cut
theorem ok_law_cut (B : NoB mg) (F : Own K mg "_law_cut" s_law_cut)  : Cal P w K mg base "_law_cut" 1 ["above", "below"] (spD K [] 2 d_law_cut) :=
  cal_den F sc_law_cut rfl (by decide) (fun _ _ _ _ _ _ us hl => match us, hl with | [_, _], _ => rfl) fun f cdv A outer s H σ0 hr =>
    (s_cons (s_parV rfl sc_law_cut.nd (i := 2) (j := 3) rfl rfl (by decide) (by decide) (by decide) rfl rfl (a_cons (e_op (pe_callB call_abs (by rfl) B.b_abs (by decide +kernel) (a_cons (pv 0) a_nil)) sem_abs) (a_cons (e_nm (pv 1)) a_nil)) (by rfl)) (s_cons (s_while PassesOwn.never (t_cmp (op_neS hr.u64) sem_neS rfl (pv 3) e_int) (s_one (s_parV rfl sc_law_cut.nd (i := 2) (j := 3) rfl rfl (by decide) (by decide) (by decide) rfl rfl (a_cons (e_nm (pv 3)) (a_cons (e_bin op_modN sem_mod (pv 2) (pv 3)) a_nil)) (by rfl)))) (s_cons (s_asg sc_law_cut.nd (i := 2) rfl (.inl rfl) (by decide) (e_op (pe_callB (call_max2 rfl) (by rfl) B.b_max (by decide +kernel) (a_cons e_int (a_cons (pv 2) a_nil))) sem_max2)) (s_one (s_ret (e_tup (a_cons (e_fz (e_bin op_fdivU sem_fdiv (pv 0) (pv 2))) (a_cons (e_fz (e_bin op_fdivU sem_fdiv (pv 1) (pv 2))) a_nil))))))))
/-! ### _law_less -/
abbrev s_law_less : Stmt := topS 26
abbrev n_law_less : List Str := ["one", "other"]
theorem sc_law_less : FnScope n_law_less ["one", "other"] (defScope s_law_less) := ⟨rfl, rfl, rfl, by decide +kernel, rfl, by decide +kernel, by decide +kernel⟩
noncomputable def b_law_less : RS := retS (opN ltO [.ex (opN mulTO [.ex (opN ixO [.nm 0, .ex (cE (nD 0))]), .ex (opN ixO [.nm 1, .ex (cE (nD 1))])]), .ex (opN mulTO [.ex (opN ixO [.nm 1, .ex (cE (nD 0))]), .ex (opN ixO [.nm 0, .ex (cE (nD 1))])])])
noncomputable def d_law_less : DF := runB 2 b_law_less
theorem ok_law_less (B : NoB mg) (F : Own K mg "_law_less" s_law_less)  : Cal P w K mg base "_law_less" 1 ["one", "other"] (spD K [] 2 d_law_less) :=
  cal_den F sc_law_less rfl (by decide) (fun _ _ _ _ _ _ us hl => match us, hl with | [_, _], _ => rfl) fun f cdv A outer s H σ0 hr =>
    (s_one (s_ret (e_cmp op_lt (sem_cmp _) rfl (e_bin op_mulT sem_mulT (e_ix (fun _ _ => rfl) (pv 0) e_int) (e_ix (fun _ _ => rfl) (pv 1) e_int)) (e_bin op_mulT sem_mulT (e_ix (fun _ _ => rfl) (pv 1) e_int) (e_ix (fun _ _ => rfl) (pv 0) e_int)))))
/-! ### _law_on -/
abbrev s_law_on : Stmt := topS 27
abbrev n_law_on : List Str := ["p", "row", "i", "s", "one", "other"]
theorem sc_law_on : FnScope n_law_on ["p", "row", "i", "s"] (defScope s_law_on) := ⟨rfl, rfl, rfl, by decide +kernel, rfl, by decide +kernel, by decide +kernel⟩
noncomputable def b_law_on : RS := seqS (parV 4 5 [.ex (opN ixO [.nm 1, .ex (opN addO [.nm 2, .nm 3])]), .ex (opN ixO [.nm 1, .ex (opN subO [.nm 2, .nm 3])])]) (retS (callE d_law_cut [.ex (opN addO [.ex (opN mulTO [.ex (opN mulTO [.ex (opN ixO [.nm 0, .ex (cE (nD 0))]), .ex (opN ixO [.nm 4, .ex (cE (nD 0))])]), .ex (opN ixO [.nm 5, .ex (cE (nD 1))])]), .ex (opN mulTO [.ex (opN mulTO [.ex (opN subO [.ex (opN ixO [.nm 0, .ex (cE (nD 1))]), .ex (opN ixO [.nm 0, .ex (cE (nD 0))])]), .ex (opN ixO [.nm 5, .ex (cE (nD 0))])]), .ex (opN ixO [.nm 4, .ex (cE (nD 1))])])]), .ex (opN mulTO [.ex (opN mulTO [.ex (opN ixO [.nm 0, .ex (cE (nD 1))]), .ex (opN ixO [.nm 4, .ex (cE (nD 1))])]), .ex (opN ixO [.nm 5, .ex (cE (nD 1))])])]))
noncomputable def d_law_on : DF := runB 6 b_law_on
theorem ok_law_on (B : NoB mg) (F : Own K mg "_law_on" s_law_on) (C_law_cut : Cal P w K mg base "_law_cut" 1 ["above", "below"] (spD K [] 2 d_law_cut)) : Cal P w K mg base "_law_on" 2 ["p", "row", "i", "s"] (spD K [] 4 d_law_on) :=
  cal_den F sc_law_on rfl (by decide) (fun _ _ _ _ _ _ us hl => match us, hl with | [_, _, _, _], _ => rfl) fun f cdv A outer s H σ0 hr =>
    (s_cons (s_parV rfl sc_law_on.nd (i := 4) (j := 5) rfl rfl (by decide) (by decide) (by decide) rfl rfl (a_cons (e_ix (fun _ _ => rfl) (pv 1) (e_bin op_addU sem_add (pv 2) (pv 3))) (a_cons (e_ix (fun _ _ => rfl) (pv 1) (e_bin op_sub sem_sub (pv 2) (pv 3))) a_nil)) (by rfl)) (s_one (s_ret (c_call C_law_cut hr (by decide) (by rfl) (a_cons (e_bin op_addU sem_add (e_bin op_mulT sem_mulT (e_bin op_mulT sem_mulT (e_ix (fun _ _ => rfl) (pv 0) e_int) (e_ix (fun _ _ => rfl) (pv 4) e_int)) (e_ix (fun _ _ => rfl) (pv 5) e_int)) (e_bin op_mulT sem_mulT (e_bin op_mulT sem_mulT (e_bin op_sub sem_sub (e_ix (fun _ _ => rfl) (pv 0) e_int) (e_ix (fun _ _ => rfl) (pv 0) e_int)) (e_ix (fun _ _ => rfl) (pv 5) e_int)) (e_ix (fun _ _ => rfl) (pv 4) e_int))) (a_cons (e_bin op_mulT sem_mulT (e_bin op_mulT sem_mulT (e_ix (fun _ _ => rfl) (pv 0) e_int) (e_ix (fun _ _ => rfl) (pv 4) e_int)) (e_ix (fun _ _ => rfl) (pv 5) e_int)) a_nil))))))
/-! ### _law_draw_p -/
abbrev s_law_draw_p : Stmt := topS 28
abbrev n_law_draw_p : List Str := ["source", "side", "q", "p"]
theorem sc_law_draw_p : FnScope n_law_draw_p ["source", "side"] (defScope s_law_draw_p) := ⟨rfl, rfl, rfl, by decide +kernel, rfl, by decide +kernel, by decide +kernel⟩
noncomputable def b_law_draw_p : RS := seqS (asgS 2 (opN addO [.ex (cE (nD 2)), .ex (callIO d_law_pick 0 [.ex (cE (nD 11))])])) (seqS (asgS 3 (opN addO [.ex (cE (nD 1)), .ex (callIO d_law_pick 0 [.ex (opN subO [.nm 2, .ex (cE (nD 1))])])])) (seqS (ifS (orT (andT (tst (opN eqsO [.nm 1, .ex (cE (nD 0))])) (tst (opN gtO [.ex (opN mulTO [.ex (cE (nD 2)), .nm 3]), .nm 2]))) (andT (tst (opN eqsO [.nm 1, .ex (cE (nD 1))])) (tst (opN ltO [.ex (opN mulTO [.ex (cE (nD 2)), .nm 3]), .nm 2])))) (asgS 3 (opN subO [.nm 2, .nm 3])) (nilS)) (retS (callE d_law_cut [.nm 3, .nm 2]))))
noncomputable def d_law_draw_p : DF := runB 4 b_law_draw_p
theorem ok_law_draw_p (B : NoB mg) (F : Own K mg "_law_draw_p" s_law_draw_p) (C_law_pick : Cal P w K mg base "_law_pick" 1 ["source", "most"] (spD K [0] 2 d_law_pick)) (C_law_cut : Cal P w K mg base "_law_cut" 1 ["above", "below"] (spD K [] 2 d_law_cut)) : Cal P w K mg base "_law_draw_p" 2 ["source", "side"] (spD K [0] 2 d_law_draw_p) :=
  cal_den F sc_law_draw_p rfl (by decide) (fun _ _ _ _ _ _ us hl => match us, hl with | [_, _], _ => rfl) fun f cdv A outer s H σ0 hr =>
    (s_cons (s_asg sc_law_draw_p.nd (i := 2) rfl (.inl rfl) (by decide) (e_bin op_addU sem_add e_int (c_io C_law_pick hr (by decide) (by rfl) (pv 0) (a_cons e_int a_nil)))) (s_cons (s_asg sc_law_draw_p.nd (i := 3) rfl (.inl rfl) (by decide) (e_bin op_addU sem_add e_int (c_io C_law_pick hr (by decide) (by rfl) (pv 0) (a_cons (e_bin op_sub sem_sub (pv 2) e_int) a_nil)))) (s_cons (s_if (PW.pt (t_or (PW.pt (t_and (t_cmp (op_eqS hr.u64) sem_eqS rfl (pv 1) e_int) (t_and1 (t_cmp op_gt (sem_cmp _) rfl (e_bin op_mulT sem_mulT e_int (pv 3)) (pv 2))))) (t_or1 (PW.pt (t_and (t_cmp (op_eqS hr.u64) sem_eqS rfl (pv 1) e_int) (t_and1 (t_cmp op_lt (sem_cmp _) rfl (e_bin op_mulT sem_mulT e_int (pv 3)) (pv 2)))))))) (s_one (s_asg sc_law_draw_p.nd (i := 3) rfl (.inl rfl) (by decide) (e_bin op_sub sem_sub (pv 2) (pv 3)))) s_nil) (s_one (s_ret (c_call C_law_cut hr (by decide) (by rfl) (a_cons (pv 3) (a_cons (pv 2) a_nil))))))))
/-! ### law -/
abbrev s_law : Stmt := topS 29
abbrev n_law : List Str := ["script", "source", "lap", "row", "i", "n", "p", "size", "one", "other", "few", "x", "y"]
theorem sc_law : FnScope n_law ["script"] (defScope s_law) := ⟨rfl, rfl, rfl, by decide +kernel, rfl, by decide +kernel, by decide +kernel⟩
noncomputable def b_law : RS := seqS (forS (opI rng1 [.ex (cE (nD 2))]) (nmT 2) (seqS (asgT (opF tupD [.ex (fzE (callIO d_law_draw_p 1 [.ex (opN ixO [.ex (opF lstD [.ex (cE (nD 0)), .ex (cE (nD 2))]), .nm 2])])), .ex (fzE (opN addO [.ex (cE (nD 1)), .ex (callIO d_law_pick 1 [.ex (cE (nD 16))])]))]) (tupT [nmT 6, nmT 7])) (seqS (asgS 3 (callE d_bold_row [.nm 6, .nm 7])) (seqS (ifS (orT (tst (opN nesO [.ex (opN lenO [.nm 3]), .ex (opN addO [.nm 7, .ex (cE (nD 1))])])) (orT (tst (opN nesO [.ex (opN ixO [.nm 3, .ex (cE (nD 0))]), .ex (opF tupD [.ex (cE (nD 0)), .ex (cE (nD 1))])])) (tst (opN nesO [.ex (opN ixO [.nm 3, .nm 7]), .ex (opF tupD [.ex (cE (nD 1)), .ex (cE (nD 1))])])))) (retS (cE (.bool false))) (nilS)) (seqS (ifS (tst (opN anyO [.ex (lcE (opI rng2 [.ex (cE (nD 1)), .nm 7]) (nmT 4) (yesT) (opN nesO [.ex (opN ixO [.nm 3, .nm 4]), .ex (callE d_law_on [.nm 6, .nm 3, .nm 4, .ex (opN min2O [.nm 4, .ex (opN subO [.nm 7, .nm 4])])])]) [4])])) (retS (cE (.bool false))) (nilS)) (seqS (asgS 4 (callIO d_law_pick 1 [.ex (opN addO [.nm 7, .ex (cE (nD 1))])])) (seqS (ifS (orT (tst (opN nesO [.ex (opN reprO [.ex (callE d_bold_chance [.nm 6, .nm 7, .nm 4])]), .ex (opN reprO [.ex (opN ixO [.nm 3, .nm 4])])])) (tst (opN anyO [.ex (lcE (seqI (nmE 3)) (tupT [nmT 11, nmT 12]) (yesT) (opN nesO [.ex (callE d_law_cut [.nm 11, .nm 12]), .ex (opF tupD [.ex (nmE 11), .ex (nmE 12)])]) [11, 12])]))) (retS (cE (.bool false))) (nilS)) (seqS (asgS 5 (callIO d_law_pick 1 [.ex (cE (nD 7))])) (seqS (parV 8 9 [.ex (callE d_bold_within [.nm 6, .nm 7, .nm 5]), .ex (callE d_bold_within [.nm 6, .nm 7, .ex (opN addO [.nm 5, .ex (cE (nD 1))])])]) (seqS (ifS (orT (tst (opN anyO [.ex (lcE (opFI zipO [.ex (nmE 3), .ex (nmE 9)]) (tupT [nmT 11, nmT 12]) (yesT) (callE d_law_less [.nm 11, .nm 12]) [11, 12])])) (tst (opN anyO [.ex (lcE (opFI zipO [.ex (nmE 9), .ex (nmE 8)]) (tupT [nmT 11, nmT 12]) (yesT) (callE d_law_less [.nm 11, .nm 12]) [11, 12])]))) (retS (cE (.bool false))) (nilS)) (ifS (tst (opN leO [.ex (opN mulTO [.ex (cE (nD 2)), .ex (opN ixO [.nm 6, .ex (cE (nD 0))])]), .ex (opN ixO [.nm 6, .ex (cE (nD 1))])])) (seqS (ifS (orT (tst (opN isnotO [.ex (callE d_judge_bound [.nm 6, .nm 7, .nm 3]), .ex (cE .none)])) (tst (opN nesO [.ex (opN reprO [.ex (callE d_greatest_row [.nm 6, .nm 7])]), .ex (opN reprO [.nm 3])]))) (retS (cE (.bool false))) (nilS)) (seqS (ifS (tst (opN anyO [.ex (lcE (opFI zipO [.ex (nmE 3), .ex (fzE (callE d_shy_row [.nm 6, .nm 7]))]) (tupT [nmT 11, nmT 12]) (yesT) (callE d_law_less [.nm 11, .nm 12]) [11, 12])])) (retS (cE (.bool false))) (nilS)) (seqS (asgS 10 (opN min2O [.nm 7, .ex (cE (nD 8))])) (ifS (tst (opN anyO [.ex (lcE (opFI zipO [.ex (fzE (callE d_bold_row [.nm 6, .nm 10])), .ex (fzE (callE d_best_within [.nm 6, .nm 10, .ex (opN min2O [.nm 5, .ex (cE (nD 6))])]))]) (tupT [nmT 11, nmT 12]) (yesT) (callE d_law_less [.nm 11, .nm 12]) [11, 12])])) (retS (cE (.bool false))) (nilS))))) (ifS (tst (opN anyO [.ex (lcE (opFI zipO [.ex (fzE (callE d_shy_row [.nm 6, .nm 7])), .ex (nmE 3)]) (tupT [nmT 11, nmT 12]) (yesT) (callE d_law_less [.nm 11, .nm 12]) [11, 12])])) (retS (cE (.bool false))) (nilS))))))))))))) (retS (cE (.bool true)))
end
section
variable {P : Program} {w : World} {K : PySem.W.Frag} {mg : Str → Option Value} {base : Heap}
theorem ok_law (B : NoB mg) {f fo : Addr} {fd fdo : FuncData} (F : Fun K "law" "law" s_law f fd) (Fo : FnG P w K mg base 1 fo fdo ["script"] (spOpen K fun ns => encS (openB ns))) (mo : mg "_law_open_cells" = some (.ref fo)) (ko2 : PySem.W.keepIn K (.ref fo) = true) (bo : Binds K fdo ["script"] []) (C_law_draw_p : Cal P w K mg base "_law_draw_p" 2 ["source", "side"] (spD K [0] 2 d_law_draw_p)) (C_law_pick : Cal P w K mg base "_law_pick" 1 ["source", "most"] (spD K [0] 2 d_law_pick)) (C_bold_row : Cal P w K mg base "bold_row" 6 ["p", "N"] (spD K [] 2 d_bold_row)) (C_law_on : Cal P w K mg base "_law_on" 2 ["p", "row", "i", "s"] (spD K [] 4 d_law_on)) (C_bold_chance : Cal P w K mg base "bold_chance" 5 ["p", "N", "i"] (spD K [] 3 d_bold_chance)) (C_law_cut : Cal P w K mg base "_law_cut" 1 ["above", "below"] (spD K [] 2 d_law_cut)) (C_bold_within : Cal P w K mg base "bold_within" 4 ["p", "N", "n"] (spD K [] 3 d_bold_within)) (C_law_less : Cal P w K mg base "_law_less" 1 ["one", "other"] (spD K [] 2 d_law_less)) (C_judge_bound : Cal P w K mg base "judge_bound" 4 ["p", "N", "value"] (spD K [] 3 d_judge_bound)) (C_greatest_row : Cal P w K mg base "greatest_row" 7 ["p", "N"] (spD K [] 2 d_greatest_row)) (C_shy_row : Cal P w K mg base "shy_row" 4 ["p", "N"] (spD K [] 2 d_shy_row)) (C_best_within : Cal P w K mg base "best_within" 4 ["p", "N", "n"] (spD K [] 3 d_best_within))
    (main : ∀ ns : List Int, ns.length ≤ 63 → ∃ e, b_law (none :: some (encS (openB ns)) :: List.replicate (13 - 2) none) = some (.rt (fz (.bool true)), e)) : FnG P w K mg base 8 f fd ["script"] (spL K) :=
  law_den (rest := (defBody s_law).drop 1) F sc_law rfl rfl rfl (.inl rfl) rfl rfl Fo (by decide) mo ko2 bo (by decide) (by decide) (by decide) (fun _ _ _ _ _ => rfl) (fun cdv A outer s H σ0 hr =>
    (s_cons (s_for PassesOwn.never rfl (i_rng1 (by rfl) B.b_range e_int) (g_nm sc_law.nd (i := 2) rfl (Or.inl rfl) (by decide)) (s_cons (s_asgT (e_tup (a_cons (e_fz (c_io C_law_draw_p hr (by decide) (by rfl) (pv 1) (a_cons (e_ix (fun _ _ => rfl) (e_lst (a_cons e_int (a_cons e_int a_nil))) (pv 2)) a_nil))) (a_cons (e_fz (e_bin op_addU sem_add e_int (c_io C_law_pick hr (by decide) (by rfl) (pv 1) (a_cons e_int a_nil)))) a_nil))) (g_tup rfl (g_cons (g_nm sc_law.nd (i := 6) rfl (Or.inr rfl) (by decide)) (g_cons (g_nm sc_law.nd (i := 7) rfl (Or.inr rfl) (by decide)) g_nil)))) (s_cons (s_asg sc_law.nd (i := 3) rfl (.inr rfl) (by decide) (c_call C_bold_row hr (by decide) (by rfl) (a_cons (pv 6) (a_cons (pv 7) a_nil)))) (s_cons (s_if (PW.pt (t_or (t_cmp (op_neS hr.u64) sem_neS rfl (e_op (pe_callB call_lenU (by rfl) B.b_len (by decide +kernel) (a_cons (pv 3) a_nil)) sem_len) (e_bin op_addU sem_add (pv 7) e_int)) (t_or (t_cmp (op_neS hr.u64) sem_neS rfl (e_ix (fun _ _ => rfl) (pv 3) e_int) (e_tup (a_cons e_int (a_cons e_int a_nil)))) (t_or1 (t_cmp (op_neS hr.u64) sem_neS rfl (e_ix (fun _ _ => rfl) (pv 3) (pv 7)) (e_tup (a_cons e_int (a_cons e_int a_nil)))))))) (s_one (s_ret e_bl)) s_nil) (s_cons (s_if (t_val (e_op (pe_callB (cr_any rfl) (by rfl) B.b_any (by decide +kernel) (a_cons (e_lc rfl sc_law.nd (own := [("i", 4)]) (show blkC n_law (defScope s_law) _ _ = true from by decide +kernel) (by decide) (by decide) (i_rng2 (by rfl) B.b_range e_int (pv 7)) (fun _ _ _ _ _ => (g_nm sc_law.nd (i := 4) rfl (Or.inl rfl) (by decide))) (fun _ _ _ _ _ => ts_nil) (fun _ _ _ _ _ => (e_cmp (op_neS hr.u64) sem_neS rfl (e_ix (fun _ _ => rfl) (pv 3) (pv 4)) (c_call C_law_on hr (by decide) (by rfl) (a_cons (pv 6) (a_cons (pv 3) (a_cons (pv 4) (a_cons (e_op (pe_callB (call_min2 rfl) (by rfl) B.b_min (by decide +kernel) (a_cons (pv 4) (a_cons (e_bin op_sub sem_sub (pv 7) (pv 4)) a_nil))) sem_min2) a_nil)))))))) a_nil)) sem_any)) (s_one (s_ret e_bl)) s_nil) (s_cons (s_asg sc_law.nd (i := 4) rfl (.inl rfl) (by decide) (c_io C_law_pick hr (by decide) (by rfl) (pv 1) (a_cons (e_bin op_addU sem_add (pv 7) e_int) a_nil))) (s_cons (s_if (PW.pt (t_or (t_cmp (op_neS hr.u64) sem_neS rfl (e_op (pe_callB (call_reprU hr.g hr.u66) (by rfl) B.b_repr (by decide +kernel) (a_cons (c_call C_bold_chance hr (by decide) (by rfl) (a_cons (pv 6) (a_cons (pv 7) (a_cons (pv 4) a_nil)))) a_nil)) sem_repr) (e_op (pe_callB (call_reprU hr.g hr.u66) (by rfl) B.b_repr (by decide +kernel) (a_cons (e_ix (fun _ _ => rfl) (pv 3) (pv 4)) a_nil)) sem_repr)) (t_or1 (t_val (e_op (pe_callB (cr_any rfl) (by rfl) B.b_any (by decide +kernel) (a_cons (e_lc rfl sc_law.nd (own := [("x", 11), ("y", 12)]) (show blkC n_law (defScope s_law) _ _ = true from by decide +kernel) (by decide) (by decide) (i_seq (e_nm (pv 3))) (fun _ _ _ _ _ => (g_tup rfl (g_cons (g_nm sc_law.nd (i := 11) rfl (Or.inl rfl) (by decide)) (g_cons (g_nm sc_law.nd (i := 12) rfl (Or.inl rfl) (by decide)) g_nil)))) (fun _ _ _ _ _ => ts_nil) (fun _ _ _ _ _ => (e_cmp (op_neS hr.u64) sem_neS rfl (c_call C_law_cut hr (by decide) (by rfl) (a_cons (pv 11) (a_cons (pv 12) a_nil))) (e_tup (a_cons (e_nm (pv 11)) (a_cons (e_nm (pv 12)) a_nil)))))) a_nil)) sem_any))))) (s_one (s_ret e_bl)) s_nil) (s_cons (s_asg sc_law.nd (i := 5) rfl (.inl rfl) (by decide) (c_io C_law_pick hr (by decide) (by rfl) (pv 1) (a_cons e_int a_nil))) (s_cons (s_parV rfl sc_law.nd (i := 8) (j := 9) rfl rfl (by decide) (by decide) (by decide) rfl rfl (a_cons (c_call C_bold_within hr (by decide) (by rfl) (a_cons (pv 6) (a_cons (pv 7) (a_cons (pv 5) a_nil)))) (a_cons (c_call C_bold_within hr (by decide) (by rfl) (a_cons (pv 6) (a_cons (pv 7) (a_cons (e_bin op_addU sem_add (pv 5) e_int) a_nil)))) a_nil)) (by rfl)) (s_cons (s_if (PW.pt (t_or (t_val (e_op (pe_callB (cr_any rfl) (by rfl) B.b_any (by decide +kernel) (a_cons (e_lc rfl sc_law.nd (own := [("x", 11), ("y", 12)]) (show blkC n_law (defScope s_law) _ _ = true from by decide +kernel) (by decide) (by decide) (i_zip (by rfl) B.b_zip (e_nm (pv 3)) (e_nm (pv 9))) (fun _ _ _ _ _ => (g_tup rfl (g_cons (g_nm sc_law.nd (i := 11) rfl (Or.inl rfl) (by decide)) (g_cons (g_nm sc_law.nd (i := 12) rfl (Or.inl rfl) (by decide)) g_nil)))) (fun _ _ _ _ _ => ts_nil) (fun _ _ _ _ _ => (c_call C_law_less hr (by decide) (by rfl) (a_cons (pv 11) (a_cons (pv 12) a_nil))))) a_nil)) sem_any)) (t_or1 (t_val (e_op (pe_callB (cr_any rfl) (by rfl) B.b_any (by decide +kernel) (a_cons (e_lc rfl sc_law.nd (own := [("x", 11), ("y", 12)]) (show blkC n_law (defScope s_law) _ _ = true from by decide +kernel) (by decide) (by decide) (i_zip (by rfl) B.b_zip (e_nm (pv 9)) (e_nm (pv 8))) (fun _ _ _ _ _ => (g_tup rfl (g_cons (g_nm sc_law.nd (i := 11) rfl (Or.inl rfl) (by decide)) (g_cons (g_nm sc_law.nd (i := 12) rfl (Or.inl rfl) (by decide)) g_nil)))) (fun _ _ _ _ _ => ts_nil) (fun _ _ _ _ _ => (c_call C_law_less hr (by decide) (by rfl) (a_cons (pv 11) (a_cons (pv 12) a_nil))))) a_nil)) sem_any))))) (s_one (s_ret e_bl)) s_nil) (s_one (s_if (t_cmp op_le (sem_cmp _) rfl (e_bin op_mulT sem_mulT e_int (e_ix (fun _ _ => rfl) (pv 6) e_int)) (e_ix (fun _ _ => rfl) (pv 6) e_int)) (s_cons (s_if (PW.pt (t_or (t_cmp op_notN sem_isnot rfl (c_call C_judge_bound hr (by decide) (by rfl) (a_cons (pv 6) (a_cons (pv 7) (a_cons (pv 3) a_nil)))) e_non) (t_or1 (t_cmp (op_neS hr.u64) sem_neS rfl (e_op (pe_callB (call_reprU hr.g hr.u66) (by rfl) B.b_repr (by decide +kernel) (a_cons (c_call C_greatest_row hr (by decide) (by rfl) (a_cons (pv 6) (a_cons (pv 7) a_nil))) a_nil)) sem_repr) (e_op (pe_callB (call_reprU hr.g hr.u66) (by rfl) B.b_repr (by decide +kernel) (a_cons (pv 3) a_nil)) sem_repr))))) (s_one (s_ret e_bl)) s_nil) (s_cons (s_if (t_val (e_op (pe_callB (cr_any rfl) (by rfl) B.b_any (by decide +kernel) (a_cons (e_lc rfl sc_law.nd (own := [("x", 11), ("y", 12)]) (show blkC n_law (defScope s_law) _ _ = true from by decide +kernel) (by decide) (by decide) (i_zip (by rfl) B.b_zip (e_nm (pv 3)) (e_fz (c_call C_shy_row hr (by decide) (by rfl) (a_cons (pv 6) (a_cons (pv 7) a_nil))))) (fun _ _ _ _ _ => (g_tup rfl (g_cons (g_nm sc_law.nd (i := 11) rfl (Or.inl rfl) (by decide)) (g_cons (g_nm sc_law.nd (i := 12) rfl (Or.inl rfl) (by decide)) g_nil)))) (fun _ _ _ _ _ => ts_nil) (fun _ _ _ _ _ => (c_call C_law_less hr (by decide) (by rfl) (a_cons (pv 11) (a_cons (pv 12) a_nil))))) a_nil)) sem_any)) (s_one (s_ret e_bl)) s_nil) (s_cons (s_asg sc_law.nd (i := 10) rfl (.inl rfl) (by decide) (e_op (pe_callB (call_min2 rfl) (by rfl) B.b_min (by decide +kernel) (a_cons (pv 7) (a_cons e_int a_nil))) sem_min2)) (s_one (s_if (t_val (e_op (pe_callB (cr_any rfl) (by rfl) B.b_any (by decide +kernel) (a_cons (e_lc rfl sc_law.nd (own := [("x", 11), ("y", 12)]) (show blkC n_law (defScope s_law) _ _ = true from by decide +kernel) (by decide) (by decide) (i_zip (by rfl) B.b_zip (e_fz (c_call C_bold_row hr (by decide) (by rfl) (a_cons (pv 6) (a_cons (pv 10) a_nil)))) (e_fz (c_call C_best_within hr (by decide) (by rfl) (a_cons (pv 6) (a_cons (pv 10) (a_cons (e_op (pe_callB (call_min2 rfl) (by rfl) B.b_min (by decide +kernel) (a_cons (pv 5) (a_cons e_int a_nil))) sem_min2) a_nil)))))) (fun _ _ _ _ _ => (g_tup rfl (g_cons (g_nm sc_law.nd (i := 11) rfl (Or.inl rfl) (by decide)) (g_cons (g_nm sc_law.nd (i := 12) rfl (Or.inl rfl) (by decide)) g_nil)))) (fun _ _ _ _ _ => ts_nil) (fun _ _ _ _ _ => (c_call C_law_less hr (by decide) (by rfl) (a_cons (pv 11) (a_cons (pv 12) a_nil))))) a_nil)) sem_any)) (s_one (s_ret e_bl)) s_nil))))) (s_one (s_if (t_val (e_op (pe_callB (cr_any rfl) (by rfl) B.b_any (by decide +kernel) (a_cons (e_lc rfl sc_law.nd (own := [("x", 11), ("y", 12)]) (show blkC n_law (defScope s_law) _ _ = true from by decide +kernel) (by decide) (by decide) (i_zip (by rfl) B.b_zip (e_fz (c_call C_shy_row hr (by decide) (by rfl) (a_cons (pv 6) (a_cons (pv 7) a_nil)))) (e_nm (pv 3))) (fun _ _ _ _ _ => (g_tup rfl (g_cons (g_nm sc_law.nd (i := 11) rfl (Or.inl rfl) (by decide)) (g_cons (g_nm sc_law.nd (i := 12) rfl (Or.inl rfl) (by decide)) g_nil)))) (fun _ _ _ _ _ => ts_nil) (fun _ _ _ _ _ => (c_call C_law_less hr (by decide) (by rfl) (a_cons (pv 11) (a_cons (pv 12) a_nil))))) a_nil)) sem_any)) (s_one (s_ret e_bl)) s_nil)))))))))))))) (s_one (s_ret e_bl)))) main
end
section
theorem all_mk {P : Program} {w : World} {K : PySem.W.Frag} {h : Heap} {mg : Str → Option Value} {fa : Addr} (X : K.In h) (G : h.Ns mainGlobals mg) (hfa : mg "law" = some (.ref fa))
    {f0 : Addr} {od0 an0 : Option Addr} {sl0 : Array (Option Value)} {oc0 kV0 dc0 pm0 cd0 ct0 : Value}
    (a0 : PySem.W.nsIn K mainGlobals "stop_divisor" = some (some (.ref f0))) (l0 : K.lookup f0 = some ⟨oc0, od0, .func (PySem.W.fnOf "stop_divisor" "stop_divisor" (defArgs s_stop_divisor) (defBody s_stop_divisor) (defScope s_stop_divisor) .none kV0 dc0 pm0 an0 cd0 ct0), sl0⟩) (c0 : PySem.W.codeIn K cd0 "stop_divisor" = true) (k0 : PySem.W.keepIn K (.ref f0) = true)
    {f1 : Addr} {od1 an1 : Option Addr} {sl1 : Array (Option Value)} {oc1 kV1 dc1 pm1 cd1 ct1 : Value}
    (a1 : PySem.W.nsIn K mainGlobals "stop_pair" = some (some (.ref f1))) (l1 : K.lookup f1 = some ⟨oc1, od1, .func (PySem.W.fnOf "stop_pair" "stop_pair" (defArgs s_stop_pair) (defBody s_stop_pair) (defScope s_stop_pair) .none kV1 dc1 pm1 an1 cd1 ct1), sl1⟩) (c1 : PySem.W.codeIn K cd1 "stop_pair" = true) (k1 : PySem.W.keepIn K (.ref f1) = true)
    {f2 : Addr} {od2 an2 : Option Addr} {sl2 : Array (Option Value)} {oc2 kV2 dc2 pm2 cd2 ct2 : Value}
    (a2 : PySem.W.nsIn K mainGlobals "is_less" = some (some (.ref f2))) (l2 : K.lookup f2 = some ⟨oc2, od2, .func (PySem.W.fnOf "is_less" "is_less" (defArgs s_is_less) (defBody s_is_less) (defScope s_is_less) .none kV2 dc2 pm2 an2 cd2 ct2), sl2⟩) (c2 : PySem.W.codeIn K cd2 "is_less" = true) (k2 : PySem.W.keepIn K (.ref f2) = true)
    {f3 : Addr} {od3 an3 : Option Addr} {sl3 : Array (Option Value)} {oc3 kV3 dc3 pm3 cd3 ct3 : Value}
    (a3 : PySem.W.nsIn K mainGlobals "greater_of" = some (some (.ref f3))) (l3 : K.lookup f3 = some ⟨oc3, od3, .func (PySem.W.fnOf "greater_of" "greater_of" (defArgs s_greater_of) (defBody s_greater_of) (defScope s_greater_of) .none kV3 dc3 pm3 an3 cd3 ct3), sl3⟩) (c3 : PySem.W.codeIn K cd3 "greater_of" = true) (k3 : PySem.W.keepIn K (.ref f3) = true)
    {f4 : Addr} {od4 an4 : Option Addr} {sl4 : Array (Option Value)} {oc4 kV4 dc4 pm4 cd4 ct4 : Value}
    (a4 : PySem.W.nsIn K mainGlobals "stake_mean" = some (some (.ref f4))) (l4 : K.lookup f4 = some ⟨oc4, od4, .func (PySem.W.fnOf "stake_mean" "stake_mean" (defArgs s_stake_mean) (defBody s_stake_mean) (defScope s_stake_mean) .none kV4 dc4 pm4 an4 cd4 ct4), sl4⟩) (c4 : PySem.W.codeIn K cd4 "stake_mean" = true) (k4 : PySem.W.keepIn K (.ref f4) = true)
    {f5 : Addr} {od5 an5 : Option Addr} {sl5 : Array (Option Value)} {oc5 kV5 dc5 pm5 cd5 ct5 : Value}
    (a5 : PySem.W.nsIn K mainGlobals "stakes_let" = some (some (.ref f5))) (l5 : K.lookup f5 = some ⟨oc5, od5, .func (PySem.W.fnOf "stakes_let" "stakes_let" (defArgs s_stakes_let) (defBody s_stakes_let) (defScope s_stakes_let) .none kV5 dc5 pm5 an5 cd5 ct5), sl5⟩) (c5 : PySem.W.codeIn K cd5 "stakes_let" = true) (k5 : PySem.W.keepIn K (.ref f5) = true)
    {f6 : Addr} {od6 an6 : Option Addr} {sl6 : Array (Option Value)} {oc6 kV6 dc6 pm6 cd6 ct6 : Value}
    (a6 : PySem.W.nsIn K mainGlobals "first_row" = some (some (.ref f6))) (l6 : K.lookup f6 = some ⟨oc6, od6, .func (PySem.W.fnOf "first_row" "first_row" (defArgs s_first_row) (defBody s_first_row) (defScope s_first_row) .none kV6 dc6 pm6 an6 cd6 ct6), sl6⟩) (c6 : PySem.W.codeIn K cd6 "first_row" = true) (k6 : PySem.W.keepIn K (.ref f6) = true)
    {f7 : Addr} {od7 an7 : Option Addr} {sl7 : Array (Option Value)} {oc7 kV7 dc7 pm7 cd7 ct7 : Value}
    (a7 : PySem.W.nsIn K mainGlobals "best_within" = some (some (.ref f7))) (l7 : K.lookup f7 = some ⟨oc7, od7, .func (PySem.W.fnOf "best_within" "best_within" (defArgs s_best_within) (defBody s_best_within) (defScope s_best_within) .none kV7 dc7 pm7 an7 cd7 ct7), sl7⟩) (c7 : PySem.W.codeIn K cd7 "best_within" = true) (k7 : PySem.W.keepIn K (.ref f7) = true)
    {f8 : Addr} {od8 an8 : Option Addr} {sl8 : Array (Option Value)} {oc8 kV8 dc8 pm8 cd8 ct8 : Value}
    (a8 : PySem.W.nsIn K mainGlobals "bold_within" = some (some (.ref f8))) (l8 : K.lookup f8 = some ⟨oc8, od8, .func (PySem.W.fnOf "bold_within" "bold_within" (defArgs s_bold_within) (defBody s_bold_within) (defScope s_bold_within) .none kV8 dc8 pm8 an8 cd8 ct8), sl8⟩) (c8 : PySem.W.codeIn K cd8 "bold_within" = true) (k8 : PySem.W.keepIn K (.ref f8) = true)
    {f9 : Addr} {od9 an9 : Option Addr} {sl9 : Array (Option Value)} {oc9 kV9 dc9 pm9 cd9 ct9 : Value}
    (a9 : PySem.W.nsIn K mainGlobals "bold_chance" = some (some (.ref f9))) (l9 : K.lookup f9 = some ⟨oc9, od9, .func (PySem.W.fnOf "bold_chance" "bold_chance" (defArgs s_bold_chance) (defBody s_bold_chance) (defScope s_bold_chance) .none kV9 dc9 pm9 an9 cd9 ct9), sl9⟩) (c9 : PySem.W.codeIn K cd9 "bold_chance" = true) (k9 : PySem.W.keepIn K (.ref f9) = true)
    {f10 : Addr} {od10 an10 : Option Addr} {sl10 : Array (Option Value)} {oc10 kV10 dc10 pm10 cd10 ct10 : Value}
    (a10 : PySem.W.nsIn K mainGlobals "led_back" = some (some (.ref f10))) (l10 : K.lookup f10 = some ⟨oc10, od10, .func (PySem.W.fnOf "led_back" "led_back" (defArgs s_led_back) (defBody s_led_back) (defScope s_led_back) .none kV10 dc10 pm10 an10 cd10 ct10), sl10⟩) (c10 : PySem.W.codeIn K cd10 "led_back" = true) (k10 : PySem.W.keepIn K (.ref f10) = true)
    {f11 : Addr} {od11 an11 : Option Addr} {sl11 : Array (Option Value)} {oc11 kV11 dc11 pm11 cd11 ct11 : Value}
    (a11 : PySem.W.nsIn K mainGlobals "round_chance" = some (some (.ref f11))) (l11 : K.lookup f11 = some ⟨oc11, od11, .func (PySem.W.fnOf "round_chance" "round_chance" (defArgs s_round_chance) (defBody s_round_chance) (defScope s_round_chance) .none kV11 dc11 pm11 an11 cd11 ct11), sl11⟩) (c11 : PySem.W.codeIn K cd11 "round_chance" = true) (k11 : PySem.W.keepIn K (.ref f11) = true)
    {f12 : Addr} {od12 an12 : Option Addr} {sl12 : Array (Option Value)} {oc12 kV12 dc12 pm12 cd12 ct12 : Value}
    (a12 : PySem.W.nsIn K mainGlobals "bold_row" = some (some (.ref f12))) (l12 : K.lookup f12 = some ⟨oc12, od12, .func (PySem.W.fnOf "bold_row" "bold_row" (defArgs s_bold_row) (defBody s_bold_row) (defScope s_bold_row) .none kV12 dc12 pm12 an12 cd12 ct12), sl12⟩) (c12 : PySem.W.codeIn K cd12 "bold_row" = true) (k12 : PySem.W.keepIn K (.ref f12) = true)
    {f13 : Addr} {od13 an13 : Option Addr} {sl13 : Array (Option Value)} {oc13 kV13 dc13 pm13 cd13 ct13 : Value}
    (a13 : PySem.W.nsIn K mainGlobals "power_of" = some (some (.ref f13))) (l13 : K.lookup f13 = some ⟨oc13, od13, .func (PySem.W.fnOf "power_of" "power_of" (defArgs s_power_of) (defBody s_power_of) (defScope s_power_of) .none kV13 dc13 pm13 an13 cd13 ct13), sl13⟩) (c13 : PySem.W.codeIn K cd13 "power_of" = true) (k13 : PySem.W.keepIn K (.ref f13) = true)
    {f14 : Addr} {od14 an14 : Option Addr} {sl14 : Array (Option Value)} {oc14 kV14 dc14 pm14 cd14 ct14 : Value}
    (a14 : PySem.W.nsIn K mainGlobals "shy_chance" = some (some (.ref f14))) (l14 : K.lookup f14 = some ⟨oc14, od14, .func (PySem.W.fnOf "shy_chance" "shy_chance" (defArgs s_shy_chance) (defBody s_shy_chance) (defScope s_shy_chance) .none kV14 dc14 pm14 an14 cd14 ct14), sl14⟩) (c14 : PySem.W.codeIn K cd14 "shy_chance" = true) (k14 : PySem.W.keepIn K (.ref f14) = true)
    {f15 : Addr} {od15 an15 : Option Addr} {sl15 : Array (Option Value)} {oc15 kV15 dc15 pm15 cd15 ct15 : Value}
    (a15 : PySem.W.nsIn K mainGlobals "shy_row" = some (some (.ref f15))) (l15 : K.lookup f15 = some ⟨oc15, od15, .func (PySem.W.fnOf "shy_row" "shy_row" (defArgs s_shy_row) (defBody s_shy_row) (defScope s_shy_row) .none kV15 dc15 pm15 an15 cd15 ct15), sl15⟩) (c15 : PySem.W.codeIn K cd15 "shy_row" = true) (k15 : PySem.W.keepIn K (.ref f15) = true)
    {f16 : Addr} {od16 an16 : Option Addr} {sl16 : Array (Option Value)} {oc16 kV16 dc16 pm16 cd16 ct16 : Value}
    (a16 : PySem.W.nsIn K mainGlobals "greatest_row" = some (some (.ref f16))) (l16 : K.lookup f16 = some ⟨oc16, od16, .func (PySem.W.fnOf "greatest_row" "greatest_row" (defArgs s_greatest_row) (defBody s_greatest_row) (defScope s_greatest_row) .none kV16 dc16 pm16 an16 cd16 ct16), sl16⟩) (c16 : PySem.W.codeIn K cd16 "greatest_row" = true) (k16 : PySem.W.keepIn K (.ref f16) = true)
    {f17 : Addr} {od17 an17 : Option Addr} {sl17 : Array (Option Value)} {oc17 kV17 dc17 pm17 cd17 ct17 : Value}
    (a17 : PySem.W.nsIn K mainGlobals "is_play_chance" = some (some (.ref f17))) (l17 : K.lookup f17 = some ⟨oc17, od17, .func (PySem.W.fnOf "is_play_chance" "is_play_chance" (defArgs s_is_play_chance) (defBody s_is_play_chance) (defScope s_is_play_chance) .none kV17 dc17 pm17 an17 cd17 ct17), sl17⟩) (c17 : PySem.W.codeIn K cd17 "is_play_chance" = true) (k17 : PySem.W.keepIn K (.ref f17) = true)
    {f18 : Addr} {od18 an18 : Option Addr} {sl18 : Array (Option Value)} {oc18 kV18 dc18 pm18 cd18 ct18 : Value}
    (a18 : PySem.W.nsIn K mainGlobals "judge_bound" = some (some (.ref f18))) (l18 : K.lookup f18 = some ⟨oc18, od18, .func (PySem.W.fnOf "judge_bound" "judge_bound" (defArgs s_judge_bound) (defBody s_judge_bound) (defScope s_judge_bound) .none kV18 dc18 pm18 an18 cd18 ct18), sl18⟩) (c18 : PySem.W.codeIn K cd18 "judge_bound" = true) (k18 : PySem.W.keepIn K (.ref f18) = true)
    {f19 : Addr} {od19 an19 : Option Addr} {sl19 : Array (Option Value)} {oc19 kV19 dc19 pm19 cd19 ct19 : Value}
    (a19 : PySem.W.nsIn K mainGlobals "_law_open_cells" = some (some (.ref f19))) (l19 : K.lookup f19 = some ⟨oc19, od19, .func (PySem.W.fnOf "_law_open_cells" "_law_open_cells" (defArgs sOpen) (defBody sOpen) (defScope sOpen) .none kV19 dc19 pm19 an19 cd19 ct19), sl19⟩) (c19 : PySem.W.codeIn K cd19 "_law_open_cells" = true) (k19 : PySem.W.keepIn K (.ref f19) = true)
    {f20 : Addr} {od20 an20 : Option Addr} {sl20 : Array (Option Value)} {oc20 kV20 dc20 pm20 cd20 ct20 : Value}
    (a20 : PySem.W.nsIn K mainGlobals "_law_pick" = some (some (.ref f20))) (l20 : K.lookup f20 = some ⟨oc20, od20, .func (PySem.W.fnOf "_law_pick" "_law_pick" (defArgs sPick) (defBody sPick) (defScope sPick) .none kV20 dc20 pm20 an20 cd20 ct20), sl20⟩) (c20 : PySem.W.codeIn K cd20 "_law_pick" = true) (k20 : PySem.W.keepIn K (.ref f20) = true)
    {f21 : Addr} {od21 an21 : Option Addr} {sl21 : Array (Option Value)} {oc21 kV21 dc21 pm21 cd21 ct21 : Value}
    (a21 : PySem.W.nsIn K mainGlobals "_law_cut" = some (some (.ref f21))) (l21 : K.lookup f21 = some ⟨oc21, od21, .func (PySem.W.fnOf "_law_cut" "_law_cut" (defArgs s_law_cut) (defBody s_law_cut) (defScope s_law_cut) .none kV21 dc21 pm21 an21 cd21 ct21), sl21⟩) (c21 : PySem.W.codeIn K cd21 "_law_cut" = true) (k21 : PySem.W.keepIn K (.ref f21) = true)
    {f22 : Addr} {od22 an22 : Option Addr} {sl22 : Array (Option Value)} {oc22 kV22 dc22 pm22 cd22 ct22 : Value}
    (a22 : PySem.W.nsIn K mainGlobals "_law_less" = some (some (.ref f22))) (l22 : K.lookup f22 = some ⟨oc22, od22, .func (PySem.W.fnOf "_law_less" "_law_less" (defArgs s_law_less) (defBody s_law_less) (defScope s_law_less) .none kV22 dc22 pm22 an22 cd22 ct22), sl22⟩) (c22 : PySem.W.codeIn K cd22 "_law_less" = true) (k22 : PySem.W.keepIn K (.ref f22) = true)
    {f23 : Addr} {od23 an23 : Option Addr} {sl23 : Array (Option Value)} {oc23 kV23 dc23 pm23 cd23 ct23 : Value}
    (a23 : PySem.W.nsIn K mainGlobals "_law_on" = some (some (.ref f23))) (l23 : K.lookup f23 = some ⟨oc23, od23, .func (PySem.W.fnOf "_law_on" "_law_on" (defArgs s_law_on) (defBody s_law_on) (defScope s_law_on) .none kV23 dc23 pm23 an23 cd23 ct23), sl23⟩) (c23 : PySem.W.codeIn K cd23 "_law_on" = true) (k23 : PySem.W.keepIn K (.ref f23) = true)
    {f24 : Addr} {od24 an24 : Option Addr} {sl24 : Array (Option Value)} {oc24 kV24 dc24 pm24 cd24 ct24 : Value}
    (a24 : PySem.W.nsIn K mainGlobals "_law_draw_p" = some (some (.ref f24))) (l24 : K.lookup f24 = some ⟨oc24, od24, .func (PySem.W.fnOf "_law_draw_p" "_law_draw_p" (defArgs s_law_draw_p) (defBody s_law_draw_p) (defScope s_law_draw_p) .none kV24 dc24 pm24 an24 cd24 ct24), sl24⟩) (c24 : PySem.W.codeIn K cd24 "_law_draw_p" = true) (k24 : PySem.W.keepIn K (.ref f24) = true)
    {f25 : Addr} {od25 an25 : Option Addr} {sl25 : Array (Option Value)} {oc25 kV25 dc25 pm25 cd25 ct25 : Value}
    (a25 : PySem.W.nsIn K mainGlobals "law" = some (some (.ref f25))) (l25 : K.lookup f25 = some ⟨oc25, od25, .func (PySem.W.fnOf "law" "law" (defArgs s_law) (defBody s_law) (defScope s_law) .none kV25 dc25 pm25 an25 cd25 ct25), sl25⟩) (c25 : PySem.W.codeIn K cd25 "law" = true) (k25 : PySem.W.keepIn K (.ref f25) = true)
    (z_abs : PySem.W.nsIn K mainGlobals "abs" = some none)
    (z_all : PySem.W.nsIn K mainGlobals "all" = some none)
    (z_any : PySem.W.nsIn K mainGlobals "any" = some none)
    (z_bool : PySem.W.nsIn K mainGlobals "bool" = some none)
    (z_int : PySem.W.nsIn K mainGlobals "int" = some none)
    (z_isinstance : PySem.W.nsIn K mainGlobals "isinstance" = some none)
    (z_len : PySem.W.nsIn K mainGlobals "len" = some none)
    (z_max : PySem.W.nsIn K mainGlobals "max" = some none)
    (z_min : PySem.W.nsIn K mainGlobals "min" = some none)
    (z_range : PySem.W.nsIn K mainGlobals "range" = some none)
    (z_repr : PySem.W.nsIn K mainGlobals "repr" = some none)
    (z_tuple : PySem.W.nsIn K mainGlobals "tuple" = some none)
    (z_zip : PySem.W.nsIn K mainGlobals "zip" = some none)
    (main : ∀ ns : List Int, ns.length ≤ 63 → ∃ e, b_law (none :: some (encS (openB ns)) :: List.replicate (13 - 2) none) = some (.rt (fz (.bool true)), e)) :
    ∃ fd : FuncData, (∀ (s : Shared) (v : Value), BindsTo s fd ⟨[v], []⟩ [("script", v)]) ∧ ∀ base : Heap, K.In base → base.Ns mainGlobals mg → FnG P w K mg base 8 fa fd ["script"] (spL K) := by
  have e := hfa.symm.trans (PySem.W.mg_of X G a25)
  cases e
  have B : NoB mg := ⟨PySem.W.mg_none_of X G z_abs, PySem.W.mg_none_of X G z_all, PySem.W.mg_none_of X G z_any, PySem.W.mg_none_of X G z_bool, PySem.W.mg_none_of X G z_int, PySem.W.mg_none_of X G z_isinstance, PySem.W.mg_none_of X G z_len, PySem.W.mg_none_of X G z_max, PySem.W.mg_none_of X G z_min, PySem.W.mg_none_of X G z_range, PySem.W.mg_none_of X G z_repr, PySem.W.mg_none_of X G z_tuple, PySem.W.mg_none_of X G z_zip⟩
  have FL := fun_mk (st := s_law) l25 c25 k25
  have FO := fun_mk (st := sOpen) l19 c19 k19
  have FP := fun_mk (st := sPick) l20 c20 k20
  refine ⟨PySem.W.fnOf "law" "law" (defArgs s_law) (defBody s_law) (defScope s_law) .none kV25 dc25 pm25 an25 cd25 ct25, fun s v => .of_eq rfl, fun base _ _ => ?_⟩
  have C_law_pick : Cal P w K mg base "_law_pick" 1 ["source", "most"] (spD K [0] 2 d_law_pick) := ⟨⟨_, _, PySem.W.mg_of X G a20, k20, FP.binds (ps := ["source", "most"]) fun _ _ _ _ _ _ us hl => match us, hl with | [_, _], _ => rfl, ok_pick FP B.b_len B.b_int⟩⟩
  have C_stop_divisor := ok_stop_divisor (P := P) (w := w) (base := base) B (own_mk (st := s_stop_divisor) X G a0 l0 c0 k0) 
  have C_stop_pair := ok_stop_pair (P := P) (w := w) (base := base) B (own_mk (st := s_stop_pair) X G a1 l1 c1 k1) C_stop_divisor
  have C_is_less := ok_is_less (P := P) (w := w) (base := base) B (own_mk (st := s_is_less) X G a2 l2 c2 k2) 
  have C_greater_of := ok_greater_of (P := P) (w := w) (base := base) B (own_mk (st := s_greater_of) X G a3 l3 c3 k3) C_is_less
  have C_stake_mean := ok_stake_mean (P := P) (w := w) (base := base) B (own_mk (st := s_stake_mean) X G a4 l4 c4 k4) C_stop_pair
  have C_stakes_let := ok_stakes_let (P := P) (w := w) (base := base) B (own_mk (st := s_stakes_let) X G a5 l5 c5 k5) 
  have C_first_row := ok_first_row (P := P) (w := w) (base := base) B (own_mk (st := s_first_row) X G a6 l6 c6 k6) 
  have C_best_within := ok_best_within (P := P) (w := w) (base := base) B (own_mk (st := s_best_within) X G a7 l7 c7 k7) C_first_row C_stakes_let C_greater_of C_stake_mean
  have C_bold_within := ok_bold_within (P := P) (w := w) (base := base) B (own_mk (st := s_bold_within) X G a8 l8 c8 k8) C_first_row C_stake_mean
  have C_led_back := ok_led_back (P := P) (w := w) (base := base) B (own_mk (st := s_led_back) X G a10 l10 c10 k10) C_stop_pair
  have C_round_chance := ok_round_chance (P := P) (w := w) (base := base) B (own_mk (st := s_round_chance) X G a11 l11 c11 k11) C_led_back C_stop_pair
  have C_bold_chance := ok_bold_chance (P := P) (w := w) (base := base) B (own_mk (st := s_bold_chance) X G a9 l9 c9 k9) C_round_chance C_led_back
  have C_bold_row := ok_bold_row (P := P) (w := w) (base := base) B (own_mk (st := s_bold_row) X G a12 l12 c12 k12) C_bold_chance
  have C_power_of := ok_power_of (P := P) (w := w) (base := base) B (own_mk (st := s_power_of) X G a13 l13 c13 k13) 
  have C_shy_chance := ok_shy_chance (P := P) (w := w) (base := base) B (own_mk (st := s_shy_chance) X G a14 l14 c14 k14) C_stop_pair C_power_of
  have C_shy_row := ok_shy_row (P := P) (w := w) (base := base) B (own_mk (st := s_shy_row) X G a15 l15 c15 k15) C_shy_chance
  have C_greatest_row := ok_greatest_row (P := P) (w := w) (base := base) B (own_mk (st := s_greatest_row) X G a16 l16 c16 k16) C_shy_row C_bold_row
  have C_is_play_chance := ok_is_play_chance (P := P) (w := w) (base := base) B (own_mk (st := s_is_play_chance) X G a17 l17 c17 k17) C_stop_divisor
  have C_judge_bound := ok_judge_bound (P := P) (w := w) (base := base) B (own_mk (st := s_judge_bound) X G a18 l18 c18 k18) C_is_play_chance C_stakes_let C_is_less C_stake_mean
  have C_law_cut := ok_law_cut (P := P) (w := w) (base := base) B (own_mk (st := s_law_cut) X G a21 l21 c21 k21) 
  have C_law_less := ok_law_less (P := P) (w := w) (base := base) B (own_mk (st := s_law_less) X G a22 l22 c22 k22) 
  have C_law_on := ok_law_on (P := P) (w := w) (base := base) B (own_mk (st := s_law_on) X G a23 l23 c23 k23) C_law_cut
  have C_law_draw_p := ok_law_draw_p (P := P) (w := w) (base := base) B (own_mk (st := s_law_draw_p) X G a24 l24 c24 k24) C_law_pick C_law_cut
  exact ok_law B FL (ok_open FO B.b_int B.b_abs) (PySem.W.mg_of X G a19) k19 (FO.binds (ps := ["script"]) fun _ _ _ _ _ _ us hl => match us, hl with | [_], _ => rfl) C_law_draw_p C_law_pick C_bold_row C_law_on C_bold_chance C_law_cut C_bold_within C_law_less C_judge_bound C_greatest_row C_shy_row C_best_within main
end
end Law
end
section
set_option Elab.async false
set_option linter.all false
set_option maxRecDepth 100000
set_option maxHeartbeats 4000000
set_option exponentiation.threshold 10000
namespace Law
open PySem L2 Dn
abbrev Pr := Nat × Nat
def eP (x : Pr) : D := .tuple [nD x.1, nD x.2]
@[simp] theorem imm_eP {x : Pr} : imm (eP x) = true := rfl
@[simp] theorem ix_eP0 {x : Pr} : ixO [eP x, nD 0] = some (fz (nD x.1)) := rfl
@[simp] theorem ix_eP1 {x : Pr} : ixO [eP x, nD 1] = some (fz (nD x.2)) := rfl
theorem t_gcd0 (a b : Nat) : Ok (d_stop_divisor [fz (nD a), fz (nD b)]) fun r => r.1 = fz (nD (max 1 (Nat.gcd a b))) := by
  unfold d_stop_divisor b_stop_divisor
  simp [startE]
  rw [while_gcd (E := fun x y => [some (fz (nD x)), some (fz (nD y))])]
  · simp
  · intro x y
    simp
  · intro x y h
    simp [h]
def cut (a b : Nat) : Pr := (a / max 1 (Nat.gcd a b), b / max 1 (Nat.gcd a b))
def cutC (a b : Nat) : Option Pr := if lim b && !(Nat.beq b 0) then some (cut a b) else none
theorem ok_cutC {a b : Nat} {P : Pr → Prop} (h : Ok (cutC a b) P) : divOkN (max 1 (Nat.gcd a b)) = true ∧ P (cut a b) := by
  unfold cutC at h
  rw [ok_guard, Bool.and_eq_true] at h
  have hb : b ≠ 0 := fun z => by
    subst z
    exact absurd h.1.2 (by decide)
  have hg := Nat.gcd_le_right a (show 0 < b by omega)
  have hl : max 1 (Nat.gcd a b) < 2 ^ 5001 := by
    have := lim_lt h.1.1
    omega
  exact ⟨divOkN_of (by omega) hl (by decide), ok_some.mp h.2⟩
theorem two_le : 2 ≤ sizeLine := by decide
theorem sz_ok {n : Nat} (h : n ≤ 10000) : n ≤ sizeLine := Nat.le_trans h (by decide)
theorem sz_lt {n : Nat} (h : n ≤ 10000) : n < sizeLine := Nat.lt_of_le_of_lt h (by decide)
theorem t_cut0 {a b : Nat} {P : Pr → Prop} (h : Ok (cutC a b) P) : Ok (d_stop_pair [fz (nD a), fz (nD b)]) fun r => ∃ v, r.1 = fz (eP v) ∧ P v := by
  obtain ⟨hd, h⟩ := ok_cutC h
  unfold d_stop_pair b_stop_pair
  simp [startE]
  refine (t_gcd0 a b).imp fun r hr => ?_
  rw [hr]
  simp [hd, two_le]
  exact ⟨_, _, rfl, h⟩
theorem t_cut1 {a b : Nat} {P : Pr → Prop} (h : Ok (cutC a b) P) : Ok (d_law_cut [fz (nD a), fz (nD b)]) fun r => ∃ v, r.1 = fz (eP v) ∧ P v := by
  obtain ⟨hd, h⟩ := ok_cutC h
  unfold d_law_cut b_law_cut
  simp [startE]
  rw [while_gcd (E := fun x y => [some (fz (nD a)), some (fz (nD b)), some (fz (nD x)), some (fz (nD y))])]
  · simp [hd, two_le]
    exact ⟨_, _, rfl, h⟩
  · intro x y
    simp
  · intro x y h
    simp [h]
def limP (x : Pr) : Bool := lim x.1 && lim x.2
def less (x y : Pr) : Bool := decide (x.1 * y.2 < y.1 * x.2)
theorem t_less {x y : Pr} (hx : limP x = true) (hy : limP y = true) : Ok (d_law_less [fz (eP x), fz (eP y)]) fun r => r.1 = fz (.bool (less x y)) := by
  unfold limP at hx hy
  rw [Bool.and_eq_true] at hx hy
  unfold d_law_less b_law_less
  simp [startE, mulOkN_of (lim_lt hx.1) (lim_lt hy.2) (by decide) (by decide), mulOkN_of (lim_lt hy.1) (lim_lt hx.2) (by decide) (by decide)]
  rfl
/-! ### bold play -/
def ledC (p : Pr) (N i : Nat) (late : Pr) : Option Pr := (mulC 2 i).bind fun d => if d ≤ N then (mulC p.1 late.1).bind fun u => (mulC p.2 late.2).bind fun v => cutC u v
  else (mulC p.1 late.2).bind fun u => (subC p.2 p.1).bind fun b => (mulC b late.1).bind fun w => (mulC p.2 late.2).bind fun v => cutC (u + w) v
theorem t_led {p late : Pr} {N i : Nat} {P : Pr → Prop} (h : Ok (ledC p N i late) P) : Ok (d_led_back [fz (eP p), fz (nD N), fz (nD i), fz (eP late)]) fun r => ∃ v, r.1 = fz (eP v) ∧ P v := by
  unfold ledC at h
  rw [ok_bind] at h
  obtain ⟨h1, h⟩ := ok_mulC h
  rw [ok_ite] at h
  unfold d_led_back b_led_back
  simp only [startE, ok_run]
  by_cases hc : 2 * i ≤ N
  · have h := h.1 hc
    rw [ok_bind] at h
    obtain ⟨h2, h⟩ := ok_mulC h
    rw [ok_bind] at h
    obtain ⟨h3, h⟩ := ok_mulC h
    simp [h1, h2, h3, hc]
    refine (t_cut0 h).imp fun r ⟨v, hr, hv⟩ => ?_
    rw [hr]
    simp
    exact ⟨v.1, v.2, rfl, hv⟩
  · have h := h.2 hc
    rw [ok_bind] at h
    obtain ⟨h2, h⟩ := ok_mulC h
    rw [ok_bind] at h
    obtain ⟨h3, h⟩ := ok_subC h
    rw [ok_bind] at h
    obtain ⟨h4, h⟩ := ok_mulC h
    rw [ok_bind] at h
    obtain ⟨h5, h⟩ := ok_mulC h
    simp [h1, h2, subO_nD h3, h4, h5, hc]
    refine (t_cut0 h).imp fun r ⟨v, hr, hv⟩ => ?_
    rw [hr]
    simp
    exact ⟨v.1, v.2, rfl, hv⟩
def goC (p : Pr) (N : Nat) (i : Nat) (s : Pr × Pr) : Option (Pr × Pr) := (ledC p N i s.1).bind fun a => (ledC p N i s.2).map fun b => (a, b)
def roundC (p : Pr) (N : Nat) (way : List Nat) : Option Pr := (foldC (goC p N) way.reverse ((0, 1), (1, 1))).bind fun s => (mulC s.1.2 s.2.2).bind fun below => (mulC s.2.1 s.1.2).bind fun x => (mulC s.1.1 s.2.2).bind fun y => (subC x y).bind fun step => (mulC s.1.1 below).bind fun u => (subC below step).bind fun z => (mulC s.1.2 z).bind fun v => cutC u v
theorem ok_of {α : Type} {r : Option α} {P : α → Prop} (h : Ok r P) : ∃ v, r = some v ∧ P v := h
theorem look_le {d : D} {m : Nat} (h : m ≤ 1) : look ⟨d, m⟩ = some d := by unfold look; rw [if_pos h]
theorem t_round {p : Pr} {N m : Nat} (hm : m ≤ 1) {way : List Nat} {P : Pr → Prop} (h : Ok (roundC p N way) P) : Ok (d_round_chance [fz (eP p), fz (nD N), ⟨.list (way.map nD), m⟩]) fun r => ∃ v, r.1 = fz (eP v) ∧ P v := by
  unfold roundC at h
  rw [ok_bind] at h
  obtain ⟨s, hs, h⟩ := ok_of h
  rw [ok_bind] at h
  obtain ⟨h1, h⟩ := ok_mulC h
  rw [ok_bind] at h
  obtain ⟨h2, h⟩ := ok_mulC h
  rw [ok_bind] at h
  obtain ⟨h3, h⟩ := ok_mulC h
  rw [ok_bind] at h
  obtain ⟨h4, h⟩ := ok_subC h
  rw [ok_bind] at h
  obtain ⟨h5, h⟩ := ok_mulC h
  rw [ok_bind] at h
  obtain ⟨h6, h⟩ := ok_subC h
  rw [ok_bind] at h
  obtain ⟨h7, h⟩ := ok_mulC h
  unfold d_round_chance b_round_chance
  simp only [startE, ok_run]
  refine ok_seq.mpr ?_
  generalize hK : After _ _ = K
  simp [-ok_seq, two_le]
  subst hK
  rw [after_nx]
  refine ok_seq.mpr ?_
  generalize hK : After _ _ = K
  simp [-ok_seq, look_le hm]
  rw [← List.map_reverse]
  refine (ok_foldC nD (goC p N) (fun s e => ∃ x3 x4 x5 : Option Val, e = [some (fz (eP p)), some (fz (nD N)), some ⟨.list (way.map nD), m⟩, x3, x4, x5, some (fz (eP s.1)), some (fz (eP s.2))]) ?_ hs ⟨_, _, _, rfl⟩).imp fun r hr => ?_
  · rintro i s s1 e hst ⟨x3, x4, x5, rfl⟩
    have ho : Ok (goC p N i s) fun v => v = s1 := ⟨_, hst, rfl⟩
    unfold goC at ho
    simp [ok_bind, ok_map] at ho
    simp [-ok_seq]
    refine (t_led ho).imp fun r ⟨a, hr, ha⟩ => ?_
    rw [hr]
    simp [-ok_seq]
    refine (t_led ha).imp fun r ⟨b, hr, hb⟩ => ?_
    rw [hr, ← hb]
    simp [-ok_seq]
  · obtain ⟨f, e⟩ := r
    obtain ⟨rfl, x3, x4, x5, rfl⟩ := hr
    subst hK
    rw [after_nx]
    simp [h1, h2, h3, h4, h5, h6, h7, subO_nD h4, subO_nD h6]
    refine (t_cut0 h).imp fun r ⟨v, hr, hv⟩ => ?_
    rw [hr]
    simp
    exact ⟨v.1, v.2, rfl, hv⟩
def stO (N : Nat) (s : List Nat × Nat) : List Nat × Nat := (s.1 ++ [s.2], if 2 * s.2 ≤ N then 2 * s.2 else 2 * s.2 - N)
def onO (N : Nat) (s : List Nat × Nat) : Bool := !decide (s.2 ∈ s.1) && !decide (s.2 ∈ [0, N])
def chanceC (p : Pr) (N i : Nat) : Option Pr := if i ∈ [0, N] then (divC i N).map fun a => (a, 1) else
  (runC (onO N) (stO N) 40 ([], i)).bind fun s =>
    (if s.2 ∈ s.1 then ((s.1.findIdx? fun z => decide (z = s.2)).bind fun j => (roundC p N (s.1.drop j)).map fun l => (j, l)) else some (s.1.length, if s.2 = 0 then (0, 1) else (1, 1))).bind fun jl =>
      foldC (fun one last => ledC p N one last) (s.1.take jl.1).reverse jl.2
theorem t_chance {p : Pr} {N i : Nat} {P : Pr → Prop} (hN : N ≤ 100) (hi : i ≤ N) (h : Ok (chanceC p N i) P) : Ok (d_bold_chance [fz (eP p), fz (nD N), fz (nD i)]) fun r => ∃ v, r.1 = fz (eP v) ∧ P v := by
  unfold chanceC at h
  rw [ok_ite] at h
  unfold d_bold_chance b_bold_chance
  simp only [startE, ok_run]
  refine ok_seq.mpr ?_
  generalize hK : After _ _ = K
  by_cases h0 : i ∈ [0, N]
  · have h := h.1 h0
    rw [ok_map] at h
    obtain ⟨h1, h2, h3⟩ := ok_divC h
    simp [-ok_seq, two_le, h0, h1]
    subst hK
    rw [after_rt]
    simp
    exact ⟨i / N, 1, rfl, h3⟩
  have h := h.2 h0
  rw [ok_bind] at h
  obtain ⟨⟨way, here⟩, hs, h⟩ := ok_of h
  simp [-ok_seq, two_le, h0]
  subst hK
  rw [after_nx]
  refine ok_seq.mpr ?_
  generalize hK : After _ _ = K
  simp [-ok_seq]
  subst hK
  rw [after_nx]
  -- the ring
  refine ok_seq.mpr ?_
  generalize hK : After _ _ = K
  have hw := while_run (c := andT (tst (opN notinO [.nm 7, .nm 6])) (tst (opN notinO [.nm 7, .ex (opF tupD [.ex (cE (nD 0)), .ex (nmE 1)])])))
    (b := seqS (expS (appE 6 (nmE 7))) (asgS 7 (ifE (tst (opN leO [.ex (opN mulTO [.ex (cE (nD 2)), .nm 7]), .nm 1])) (opN mulTO [.ex (cE (nD 2)), .nm 7]) (opN subO [.ex (opN mulTO [.ex (cE (nD 2)), .nm 7]), .nm 1]))))
    (fun s : List Nat × Nat => [some (fz (eP p)), some (fz (nD N)), some (fz (nD i)), none, none, none, some ⟨.list (s.1.map nD), 1⟩, some (fz (nD s.2))]) (fun n s => s.1.length + n ≤ 100 ∧ s.2 ≤ N) (onO N) (stO N) (fun n x hI => ?_) (fun n x hI hk => ?_) (n := 40) (x := ([], i)) ⟨by simp, hi⟩ hs
  · obtain ⟨hw, -, hk⟩ := hw
    simp only [List.map_nil] at hw
    rw [hw, ok_some]
    clear hw
    dsimp only at h hk
    subst hK
    rw [after_nx]
    have hend : here ∉ way → here = 0 ∨ here = N := fun hn => by
      unfold onO at hk
      simp [hn] at hk
      omega
    have tl : ∀ {j : Nat} {last : Pr} (_ : True), Ok (foldC (fun one last => ledC p N one last) (way.take j).reverse last) P → Ok (seqS (forS (seqI (fzE (opN revO [.ex (opN cutHiO [.nm 6, .nm 3])]))) (nmT 5) (asgS 4 (callE d_led_back [.nm 0, .nm 1, .nm 5, .nm 4]))) (retS (mvE 4))
        [some (fz (eP p)), some (fz (nD N)), some (fz (nD i)), some (fz (nD j)), some (fz (eP last)), none, some ⟨.list (way.map nD), 1⟩, some (fz (nD here))]) (fun r => match r with
          | (.rt v, e) => ∃ v_1, v = fz (eP v_1) ∧ P v_1
          | (.nx, e) => ∃ v, fz PyData.none = fz (eP v) ∧ P v
          | x => False) := fun {j last} _ h => by
      obtain ⟨v, hv, hP⟩ := ok_of h
      refine ok_seq.mpr ?_
      generalize hK : After _ _ = K
      simp [-ok_seq]
      rw [← List.map_take, ← List.map_reverse]
      refine (ok_foldC nD (fun one last => ledC p N one last) (fun last e => ∃ x5 : Option Val, e = [some (fz (eP p)), some (fz (nD N)), some (fz (nD i)), some (fz (nD j)), some (fz (eP last)), x5, some ⟨.list (way.map nD), 1⟩, some (fz (nD here))]) ?_ hv ⟨_, rfl⟩).imp fun r hr => ?_
      · rintro one s s1 e hst ⟨x5, rfl⟩
        have ho : Ok (ledC p N one s) fun v => v = s1 := ⟨_, hst, rfl⟩
        simp [-ok_seq]
        refine (t_led ho).imp fun r ⟨a, hr, ha⟩ => ?_
        rw [hr, ha]
        simp
      · obtain ⟨f, e⟩ := r
        obtain ⟨rfl, x5, rfl⟩ := hr
        subst hK
        rw [after_nx]
        simp
        exact ⟨v.1, v.2, rfl, hP⟩
    refine ok_seq.mpr ?_
    generalize hK : After _ _ = K
    by_cases hin : here ∈ way
    · rw [if_pos hin] at h
      simp only [ok_bind, ok_map] at h
      obtain ⟨j, hj, h⟩ := ok_of h
      simp [-ok_seq, hin, hj]
      subst hK
      rw [after_nx]
      refine ok_seq.mpr ?_
      generalize hK : After _ _ = K
      simp [-ok_seq, hin, two_le]
      subst hK
      rw [after_nx]
      refine ok_seq.mpr ?_
      generalize hK : After _ _ = K
      simp [-ok_seq, hin]
      rw [← List.map_drop]
      refine (t_round (Nat.le_refl _) h).imp fun r ⟨l, hr, h⟩ => ?_
      rw [hr]
      simp [-ok_seq]
      subst hK
      rw [after_nx]
      exact tl (last := l) trivial h
    · rw [if_neg hin] at h
      simp only [ok_bind, ok_some] at h
      simp [-ok_seq, hin]
      subst hK
      rw [after_nx]
      refine ok_seq.mpr ?_
      generalize hK : After _ _ = K
      by_cases hz : here = 0
      · rw [if_pos hz] at h
        subst hz
        simp [-ok_seq, hin, two_le]
        subst hK
        rw [after_nx]
        refine ok_seq.mpr ?_
        generalize hK : After _ _ = K
        simp [-ok_seq, hin]
        subst hK
        rw [after_nx]
        exact tl (last := (0, 1)) trivial h
      · rw [if_neg hz] at h
        simp [-ok_seq, hin, two_le, hz]
        subst hK
        rw [after_nx]
        refine ok_seq.mpr ?_
        generalize hK : After _ _ = K
        simp [-ok_seq, hin]
        subst hK
        rw [after_nx]
        exact tl (last := (1, 1)) trivial h
  · obtain ⟨way, here⟩ := x
    unfold onO
    by_cases h1 : here ∈ way
    · simp [h1]
    · simp [h1, two_le]
  · obtain ⟨way, here⟩ := x
    obtain ⟨hl, hh⟩ := hI
    dsimp only at hl hh
    have hm : mulOkN 2 here = true := mulOkN_of (j := 2) (k := 10) (by decide) (by omega) (by decide) (by decide)
    constructor
    · refine Ok.eq ?_
      simp [ownL, sz_lt (show way.length ≤ 10000 by omega), hm, stO]
      by_cases hc : 2 * here ≤ N
      · simp [hc]
      · simp [hc, subO_nD (show N ≤ 2 * here by omega)]
    · unfold stO
      dsimp only
      rw [List.length_append, List.length_singleton]
      refine ⟨by omega, ?_⟩
      split <;> omega
theorem lt_pow_mono {a j k : Nat} (h : a < 2 ^ j) (hjk : j ≤ k) : a < 2 ^ k := Nat.lt_of_lt_of_le h (Nat.pow_le_pow_right (by decide) hjk)
theorem nD_get {n i : Nat} {d : D} (h : ((List.range n).map nD)[i]? = some d) : i < n ∧ d = nD i := by
  rw [List.getElem?_map] at h
  cases q : (List.range n)[i]? with
  | none => rw [q] at h; cases h
  | some j =>
    rw [q] at h
    cases h
    obtain ⟨hl, e⟩ := List.getElem?_eq_some_iff.mp q
    rw [List.getElem_range] at e
    rw [List.length_range] at hl
    exact ⟨hl, by rw [e]⟩
theorem pow_lt {x e : Nat} (hx : x < 2 ^ 4) : x ^ e < 2 ^ (4 * e + 1) := by
  induction e with
  | zero => rw [Nat.pow_zero]; decide
  | succ e ih =>
    rw [Nat.pow_succ]
    have : x ^ e * x < 2 ^ (4 * e + 1) * 2 ^ 4 := Nat.mul_lt_mul'' ih hx
    rw [← Nat.pow_add] at this
    exact lt_pow_mono this (by omega)
theorem t_pow {x e : Nat} (hx : x < 2 ^ 4) (he : e ≤ 100) : Ok (d_power_of [fz (nD x), fz (nD e)]) fun r => r.1 = fz (nD (x ^ e)) := by
  unfold d_power_of b_power_of
  simp only [startE, ok_run]
  simp
  refine ⟨rg62_of (by omega), ?_⟩
  refine ok_loop (fun j e' => ∃ x3 : Option Val, e' = [some (fz (nD x)), some (fz (nD e)), some (fz (nD (x ^ j))), x3]) (k := 0) ⟨_, by rw [Nat.pow_zero]⟩ ?_ ?_
  · rintro j d e' hd ⟨x3, rfl⟩
    obtain ⟨hj, rfl⟩ := nD_get hd
    rw [Nat.zero_add]
    simp [mulOkN_of (pow_lt hx (e := j)) hx (by omega) (by decide), Nat.pow_succ]
  · rintro e' ⟨x3, rfl⟩
    rw [Nat.zero_add, List.length_map, List.length_range]
    simp
def dist (x y : Nat) : Nat := (x - y) + (y - x)
theorem subO_gen {x y : Nat} : subO [nD x, nD y] = some (fz (.int ((x : Int) - (y : Int)))) := rfl
theorem mulTO_gen {c : Int} {z : Nat} : mulTO [.int c, nD z] = if mulOk c (z : Int) = true then some (fz (.int (c * (z : Int)))) else none := rfl
theorem absO_gen {c : Int} : absO [.int c] = some (fz (nD c.natAbs)) := by
  rw [absO_int]
  unfold nD
  congr 3
  split <;> omega
theorem dist_abs {x y : Nat} : ((x : Int) - (y : Int)).natAbs = dist x y := by
  unfold dist
  omega
theorem dist_lt {x y k : Nat} (hx : x < 2 ^ k) (hy : y < 2 ^ k) : dist x y < 2 ^ k := by
  unfold dist
  omega
theorem mulOk_abs {c : Int} {z j k : Nat} (h : c.natAbs < 2 ^ j) (h2 : z < 2 ^ k) (hj : j ≤ 400000) (hk : k ≤ 400000) : mulOk c (z : Int) = true := by
  have := mulOkN_of h h2 hj hk
  unfold mulOkN at this
  unfold mulOk at this ⊢
  rw [Int.natAbs_natCast] at this
  exact this
def shyC (p : Pr) (N i : Nat) : Option Pr := (subC p.2 p.1).bind fun bad => if p.1 = bad then cutC i N else cutC (dist (bad ^ i) (p.1 ^ i) * p.1 ^ (N - i)) (dist (bad ^ N) (p.1 ^ N))
theorem t_shy {p : Pr} {N i : Nat} {P : Pr → Prop} (h2 : p.2 ≤ 12) (hN : N ≤ 100) (hi : i ≤ N) (h : Ok (shyC p N i) P) : Ok (d_shy_chance [fz (eP p), fz (nD N), fz (nD i)]) fun r => ∃ v, r.1 = fz (eP v) ∧ P v := by
  unfold shyC at h
  rw [ok_bind] at h
  obtain ⟨hle, h⟩ := ok_subC h
  rw [ok_ite] at h
  have hg : p.1 < 2 ^ 4 := by omega
  have hb : p.2 - p.1 < 2 ^ 4 := by omega
  unfold d_shy_chance b_shy_chance
  simp only [startE, ok_run]
  refine ok_seq.mpr ?_
  generalize hK : After _ _ = K
  simp [-ok_seq, subO_nD hle]
  subst hK
  rw [after_nx]
  refine ok_seq.mpr ?_
  generalize hK : After _ _ = K
  by_cases hc : p.1 = p.2 - p.1
  · have h := h.1 hc
    simp [-ok_seq, ← hc]
    refine (t_cut0 h).imp fun r ⟨v, hr, hv⟩ => ?_
    rw [hr]
    simp [-ok_seq]
    subst hK
    rw [after_rt]
    exact ⟨v, rfl, hv⟩
  · have h := h.2 hc
    simp [-ok_seq, hc]
    subst hK
    rw [after_nx]
    generalize p.2 - p.1 = b at *
    have x1 : b ^ i < 2 ^ 500 := lt_pow_mono (pow_lt hb) (by omega)
    have x2 : p.1 ^ i < 2 ^ 500 := lt_pow_mono (pow_lt hg) (by omega)
    have x3 : p.1 ^ (N - i) < 2 ^ 500 := lt_pow_mono (pow_lt hg) (by omega)
    have x4 : b ^ N < 2 ^ 500 := lt_pow_mono (pow_lt hb) (by omega)
    have x5 : p.1 ^ N < 2 ^ 500 := lt_pow_mono (pow_lt hg) (by omega)
    have q1 := t_pow hb (show i ≤ 100 by omega)
    have q2 := t_pow hg (show i ≤ 100 by omega)
    have q3 := t_pow hg (show N - i ≤ 100 by omega)
    have q4 := t_pow hb (show N ≤ 100 by omega)
    have q5 := t_pow hg (show N ≤ 100 by omega)
    generalize b ^ i = X1 at *
    generalize p.1 ^ i = X2 at *
    generalize p.1 ^ (N - i) = X3 at *
    generalize b ^ N = X4 at *
    generalize p.1 ^ N = X5 at *
    obtain ⟨c, ec⟩ : ∃ c : Int, (X1 : Int) - (X2 : Int) = c := ⟨_, rfl⟩
    obtain ⟨c2, ec2⟩ : ∃ c : Int, (X4 : Int) - (X5 : Int) = c := ⟨_, rfl⟩
    have a1 : c.natAbs = dist X1 X2 := by rw [← ec, dist_abs]
    have a2 : c2.natAbs = dist X4 X5 := by rw [← ec2, dist_abs]
    have m1 : mulOk c (X3 : Int) = true := mulOk_abs (j := 500) (by rw [a1]; exact dist_lt x1 x2) x3 (by decide) (by decide)
    have a3 : (c * (X3 : Int)).natAbs = dist X1 X2 * X3 := by rw [Int.natAbs_mul, a1, Int.natAbs_natCast]
    refine ok_seq.mpr ?_
    generalize hK : After _ _ = K
    simp [-ok_seq]
    refine q1.imp fun r hr => ?_
    rw [hr]
    simp [-ok_seq]
    refine q2.imp fun r hr => ?_
    rw [hr]
    simp [-ok_seq, subO_gen, subO_nD hi, ec]
    refine q3.imp fun r hr => ?_
    rw [hr]
    simp [-ok_seq, mulTO_gen, m1]
    subst hK
    rw [after_nx]
    refine ok_seq.mpr ?_
    generalize hK : After _ _ = K
    simp [-ok_seq]
    refine q4.imp fun r hr => ?_
    rw [hr]
    simp [-ok_seq]
    refine q5.imp fun r hr => ?_
    rw [hr]
    simp [-ok_seq, subO_gen, ec2]
    subst hK
    rw [after_nx]
    simp only [callE_def, retS_def, rN_ex, rN_nil, opN_def, rN_nm, has_succ, has_zero_s, if_true, ok_bind, ok_map, ok_some, rsN_inl, rsN_nil, at_succ, at_zero, look_0, absO_gen, a2, a3, valsOf_inr, valsOf_nil]
    refine (t_cut0 h).imp fun r ⟨v, hr, hv⟩ => ?_
    rw [hr]
    simp
    exact ⟨v.1, v.2, rfl, hv⟩
def boldRow (p : Pr) (N : Nat) : Option (List Pr) := mapC (chanceC p N) (List.range (N + 1))
def shyRow (p : Pr) (N : Nat) : Option (List Pr) := mapC (shyC p N) (List.range (N + 1))
theorem imm_row {row : List Pr} : immL (row.map eP) = true := immL_map (fun _ => rfl) _
theorem t_boldrow {p : Pr} {N : Nat} {row : List Pr} (hN : N ≤ 100) (h : boldRow p N = some row) : Ok (d_bold_row [fz (eP p), fz (nD N)]) fun r => r.1 = fz (.tuple (row.map eP)) := by
  unfold d_bold_row b_bold_row
  simp only [startE, ok_run]
  simp
  refine ⟨rg62_of (by omega), sz_ok (by omega), ?_⟩
  rw [lcL_mapC nD eP (chanceC p N) (fun i hi v hv => ?_) h]
  · simp
  · have hi := List.mem_range.mp hi
    have ho : Ok (chanceC p N i) fun x => x = v := ⟨_, hv, rfl⟩
    simp
    refine (t_chance hN (by omega) ho).imp fun r ⟨w, hr, hw⟩ => ?_
    rw [hr, hw]
    simp
theorem t_shyrow {p : Pr} {N : Nat} {row : List Pr} (h2 : p.2 ≤ 12) (hN : N ≤ 100) (h : shyRow p N = some row) : Ok (d_shy_row [fz (eP p), fz (nD N)]) fun r => r.1 = fz (.tuple (row.map eP)) := by
  unfold d_shy_row b_shy_row
  simp only [startE, ok_run]
  simp
  refine ⟨rg62_of (by omega), sz_ok (by omega), ?_⟩
  rw [lcL_mapC nD eP (shyC p N) (fun i hi v hv => ?_) h]
  · simp
  · have hi := List.mem_range.mp hi
    have ho : Ok (shyC p N i) fun x => x = v := ⟨_, hv, rfl⟩
    simp
    refine (t_shy h2 hN (by omega) ho).imp fun r ⟨w, hr, hw⟩ => ?_
    rw [hr, hw]
    simp
/-- short: below 2 ^ 500 -/
def shortP (x : Pr) : Bool := Nat.blt x.1 (2 ^ 500) && Nat.blt x.2 (2 ^ 500)
theorem eqv_eP (x y : Pr) : PyData.eqv (eP x) (eP y) = decide (x = y) := by
  unfold eP
  unfold PyData.eqv PyData.eqvAll PyData.eqvAll PyData.eqvAll
  rw [eqv_nD, eqv_nD]
  obtain ⟨a, b⟩ := x
  obtain ⟨c, d⟩ := y
  by_cases h1 : a = c <;> by_cases h2 : b = d <;> simp [h1, h2]
theorem log2_lt' {n k : Nat} (h : n < 2 ^ k) (hk : 0 < k) : n.log2 < k := by
  by_cases z : n = 0
  · subst z; exact hk
  · exact (Nat.log2_lt z).mpr h
theorem short_lt {x : Pr} (h : shortP x = true) : x.1 < 2 ^ 500 ∧ x.2 < 2 ^ 500 := by
  unfold shortP at h
  rw [Bool.and_eq_true] at h
  exact ⟨Nat.blt_eq.mp h.1, Nat.blt_eq.mp h.2⟩
theorem short_lim {x : Pr} (h : shortP x = true) : limP x = true := by
  obtain ⟨h1, h2⟩ := short_lt h
  have key : ∀ n : Nat, n < 2 ^ 500 → lim n = true := fun n h => Nat.ble_eq.mpr (Nat.le_of_lt (lt_pow_mono h (by decide)))
  unfold limP
  rw [key _ h1, key _ h2]
  rfl
theorem sm_eP {x : Pr} (h : shortP x = true) : sm 500 (eP x) = true := by
  obtain ⟨h1, h2⟩ := short_lt h
  unfold eP sm
  unfold smL smL smL
  rw [sm_nD, sm_nD, decide_eq_true (log2_lt' h1 (by decide)), decide_eq_true (log2_lt' h2 (by decide))]
  rfl
theorem depth_eP {x : Pr} : (eP x).depth ≤ 1 := by
  unfold eP PyData.depth
  unfold PyData.depthAll PyData.depthAll PyData.depthAll
  rw [depth_nD, depth_nD]
  decide
theorem cost_eP {k : Nat} {x : Pr} : cost k (eP x) ≤ 2 * k + 19 := by
  unfold eP cost
  unfold costL costL costL
  rw [cost_nD, cost_nD]
  omega
theorem sz_big {n : Nat} (h : n ≤ 10000000) : n ≤ sizeLine := Nat.le_trans h (Nat.le_of_ble_eq_true rfl)
def Short (row : List Pr) : Prop := ∀ x ∈ row, shortP x = true
theorem sm_row {row : List Pr} (h : Short row) : smL 500 (row.map eP) = true := smL_map fun x hx => sm_eP (h x hx)
theorem depth_row {row : List Pr} : PyData.depthAll (row.map eP) ≤ 1 := depthL_map fun _ _ => depth_eP
theorem shw_row {row : List Pr} (h : Short row) (hl : row.length ≤ 1001) : shw (.tuple (row.map eP)) = true := by
  refine shw_of (b := 500) (by unfold sm; exact sm_row h) (by omega) (by unfold PyData.depth; have := depth_row (row := row); omega) ?_
  unfold cost
  have h1 := costL_map (b := 500) (c := 1019) (f := eP) (xs := row) fun _ _ => cost_eP
  have h2 : (1019 + 2) * row.length ≤ 1021 * 1001 := Nat.mul_le_mul (by omega) hl
  exact sz_big (by omega)
theorem nes_row {x y : List Pr} (h : Short x) (h2 : Short y) : nesO [.tuple (x.map eP), .tuple (y.map eP)] = some (fz (.bool (!decide (x = y)))) := by
  rw [nesO_of (b := 500) (c := 500) (by unfold sm; exact sm_row h) (by unfold sm; exact sm_row h2) (by unfold PyData.depth; have := depth_row (row := x); omega) (by unfold PyData.depth; have := depth_row (row := y); omega)]
  unfold PyData.eqv
  rw [eqvL_map eqv_eP]
theorem nes_eP {x y : Pr} (h : shortP x = true) (h2 : shortP y = true) : nesO [eP x, eP y] = some (fz (.bool (!decide (x = y)))) := by
  rw [nesO_of (sm_eP h) (sm_eP h2) (Nat.le_trans depth_eP (by decide)) (Nat.le_trans depth_eP (by decide)), eqv_eP]
/-! ### draws -/
@[simp] theorem has_enc {s : Src} {e : Ev} : has (some (encS s) :: e) 0 = true := rfl
theorem pickB_range (s : Src) {m : Nat} : ∃ k : Nat, (pickB s m).1 = (k : Int) ∧ (0 < m → k < m) := by
  unfold pickB
  by_cases hm : (m : Int) < 2
  · rw [if_pos hm]
    exact ⟨0, rfl, fun h => h⟩
  · rw [if_neg hm]
    dsimp only
    have key : ∀ x : Int, ∃ k : Nat, x.fmod m = (k : Int) ∧ (0 < m → k < m) := fun x => by
      have h1 := Int.fmod_nonneg_of_pos x (show (0 : Int) < m by omega)
      have h2 := Int.fmod_lt_of_pos x (show (0 : Int) < m by omega)
      exact ⟨(x.fmod m).toNat, by omega, fun _ => by omega⟩
    split
    · exact key _
    · exact key _
theorem t_pick (s : Src) {m : Nat} (hm : m ≤ 100000) : Ok (pickD pickB [encS s, fz (nD m)]) fun r => ∃ k s', r = (fz (nD k), [some (encS s'), some (fz (nD m))]) ∧ (0 < m → k < m) := by
  obtain ⟨k, e, h⟩ := pickB_range s (m := m)
  unfold nD
  rw [pickD_eq _ _ _ (by omega), e, ok_some]
  exact ⟨k, _, rfl, h⟩
end Law
end
section
set_option Elab.async false
set_option linter.all false
set_option maxRecDepth 100000
set_option maxHeartbeats 4000000
set_option exponentiation.threshold 10000
namespace Law
open PySem L2 Dn
theorem t_less0 {x y : Pr} (hx : limP x = true) (hy : limP y = true) : Ok (d_is_less [fz (eP x), fz (eP y)]) fun r => r.1 = fz (.bool (less x y)) := by
  unfold limP at hx hy
  rw [Bool.and_eq_true] at hx hy
  unfold d_is_less b_is_less
  simp [startE, mulOkN_of (lim_lt hx.1) (lim_lt hy.2) (by decide) (by decide), mulOkN_of (lim_lt hy.1) (lim_lt hx.2) (by decide) (by decide)]
  rfl
def more (x y : Pr) : Pr := if less x y = true then y else x
theorem t_more {x y : Pr} (hx : limP x = true) (hy : limP y = true) : Ok (d_greater_of [fz (eP x), fz (eP y)]) fun r => r.1 = fz (eP (more x y)) := by
  unfold d_greater_of b_greater_of
  simp [startE]
  refine (t_less0 hx hy).imp fun r hr => ?_
  rw [hr]
  simp
  unfold more
  split <;> simp
def meanC (p one other : Pr) : Option Pr := (mulC p.1 one.1).bind fun a => (mulC a other.2).bind fun b => (subC p.2 p.1).bind fun c => (mulC c other.1).bind fun d => (mulC d one.2).bind fun e => (mulC p.2 one.2).bind fun f => (mulC f other.2).bind fun g => cutC (b + e) g
def meanAt (p : Pr) (row : List Pr) (i s : Nat) : Option Pr := (subC i s).bind fun j => (row[i + s]?).bind fun one => (row[j]?).bind fun other => meanC p one other
theorem get_eP {row : List Pr} {i : Nat} {x : Pr} (h : row[i]? = some x) : (row.map eP)[i]? = some (eP x) := by
  rw [List.getElem?_map, h]; rfl
theorem t_mean0 {p : Pr} {row : List Pr} {i s : Nat} {P : Pr → Prop} (h : Ok (meanAt p row i s) P) : Ok (d_stake_mean [fz (eP p), fz (.tuple (row.map eP)), fz (nD i), fz (nD s)]) fun r => ∃ v, r.1 = fz (eP v) ∧ P v := by
  unfold meanAt at h
  rw [ok_bind] at h
  obtain ⟨hs, h⟩ := ok_subC h
  rw [ok_bind] at h
  obtain ⟨one, g1, h⟩ := ok_of h
  rw [ok_bind] at h
  obtain ⟨other, g2, h⟩ := ok_of h
  unfold meanC at h
  simp only [ok_bind] at h
  obtain ⟨m1, h⟩ := ok_mulC h
  obtain ⟨m2, h⟩ := ok_mulC h
  obtain ⟨m3, h⟩ := ok_subC h
  obtain ⟨m4, h⟩ := ok_mulC h
  obtain ⟨m5, h⟩ := ok_mulC h
  obtain ⟨m6, h⟩ := ok_mulC h
  obtain ⟨m7, h⟩ := ok_mulC h
  unfold d_stake_mean b_stake_mean
  simp only [startE, ok_run]
  simp [g1, g2, subO_nD hs, m1, m2, subO_nD m3, m4, m5, m6, m7]
  refine (t_cut0 h).imp fun r ⟨v, hr, hv⟩ => ?_
  rw [hr]
  simp
  exact ⟨v.1, v.2, rfl, hv⟩
theorem t_mean1 {p : Pr} {row : List Pr} {i s : Nat} {P : Pr → Prop} (h : Ok (meanAt p row i s) P) : Ok (d_law_on [fz (eP p), fz (.tuple (row.map eP)), fz (nD i), fz (nD s)]) fun r => ∃ v, r.1 = fz (eP v) ∧ P v := by
  unfold meanAt at h
  rw [ok_bind] at h
  obtain ⟨hs, h⟩ := ok_subC h
  rw [ok_bind] at h
  obtain ⟨one, g1, h⟩ := ok_of h
  rw [ok_bind] at h
  obtain ⟨other, g2, h⟩ := ok_of h
  unfold meanC at h
  simp only [ok_bind] at h
  obtain ⟨m1, h⟩ := ok_mulC h
  obtain ⟨m2, h⟩ := ok_mulC h
  obtain ⟨m3, h⟩ := ok_subC h
  obtain ⟨m4, h⟩ := ok_mulC h
  obtain ⟨m5, h⟩ := ok_mulC h
  obtain ⟨m6, h⟩ := ok_mulC h
  obtain ⟨m7, h⟩ := ok_mulC h
  unfold d_law_on b_law_on
  simp only [startE, ok_run]
  simp [g1, g2, subO_nD hs, m1, m2, subO_nD m3, m4, m5, m6, m7]
  refine (t_cut1 h).imp fun r ⟨v, hr, hv⟩ => ?_
  rw [hr]
  simp
  exact ⟨v.1, v.2, rfl, hv⟩
theorem imm_range {n : Nat} : immL ((List.range n).map nD) = true := immL_map (fun _ => rfl) _
theorem t_lets {N i : Nat} (hN : N ≤ 1000) (hi : i ≤ N) : Ok (d_stakes_let [fz (nD N), fz (nD i)]) fun r => r.1 = fz (.tuple ((List.range (min i (N - i) + 1)).map nD)) := by
  unfold d_stakes_let b_stakes_let
  simp only [startE, ok_run]
  simp [subO_nD hi, rgS_of (show min i (N - i) + 1 ≤ 100000 by omega)]
def first (N : Nat) : List Pr := List.replicate N (0, 1) ++ [(1, 1)]
theorem first_len {N : Nat} : (first N).length = N + 1 := by simp [first]
theorem flat_one {α : Type} (a : α) : ∀ n : Nat, (List.replicate n [a]).flatten = List.replicate n a
  | 0 => rfl
  | n + 1 => by rw [List.replicate_succ, List.flatten_cons, flat_one a n]; rfl
theorem t_first0 {N : Nat} (h1 : 1 ≤ N) (hN : N ≤ 1000) : Ok (d_first_row [fz (nD N)]) fun r => r.1 = fz (.tuple ((first N).map eP)) := by
  unfold d_first_row b_first_row
  simp only [startE, ok_run]
  simp [mulTO_tupN (a := [PyData.tuple [nD 0, nD 1]]) (by simp) h1 hN (by simp), two_le, flat_one]
  refine ⟨sz_ok (by omega), sz_ok (by omega), ?_⟩
  unfold first
  rw [List.map_append, List.map_replicate]
  rfl
/-! ### the best of all stakes -/
def stB (p : Pr) (row : List Pr) (i s : Nat) (b : Pr) : Option Pr := (meanAt p row i s).bind fun m => if limP b && limP m then some (more b m) else none
def bestOf (p : Pr) (row : List Pr) (N i : Nat) : Option Pr := foldC (stB p row i) (List.range (min i (N - i) + 1)) (0, 1)
def stL (p : Pr) (row : List Pr) (N i : Nat) (late : List Pr) : Option (List Pr) := if Nat.ble late.length 1000 && Nat.ble i N then (bestOf p row N i).map fun b => late ++ [b] else none
def stepB (p : Pr) (N : Nat) (_ : Nat) (row : List Pr) : Option (List Pr) := foldC (stL p row N) (List.range (N + 1)) []
def bestC (p : Pr) (N n : Nat) : Option (List Pr) := foldC (stepB p N) (List.range n) (first N)
theorem t_best0 {p : Pr} {N n : Nat} {row : List Pr} (h1 : 1 ≤ N) (hN : N ≤ 1000) (hn : n ≤ 1000) (h : bestC p N n = some row) : Ok (d_best_within [fz (eP p), fz (nD N), fz (nD n)]) fun r => r.1 = fz (.tuple (row.map eP)) := by
  unfold d_best_within b_best_within
  simp only [startE, ok_run]
  refine ok_seq.mpr ?_
  generalize hK : After _ _ = K
  simp [-ok_seq]
  refine (t_first0 h1 hN).imp fun r hr => ?_
  rw [hr]
  simp [-ok_seq, imm_row]
  subst hK
  rw [after_nx]
  refine ok_seq.mpr ?_
  generalize hK : After _ _ = K
  simp [-ok_seq]
  refine ⟨rg62_of (by omega), ?_⟩
  refine (ok_foldC nD (stepB p N) (fun row e => ∃ x5 x6 x7 x8 x9 : Option Val, e = [some (fz (eP p)), some (fz (nD N)), some (fz (nD n)), some (fz (.tuple (row.map eP))), x5, x6, x7, x8, x9]) ?_ h ⟨_, _, _, _, _, rfl⟩).imp fun r hr => ?_
  · rintro lap row row' e hst ⟨x5, x6, x7, x8, x9, rfl⟩
    rw [nmT_def, ok_some]
    refine ok_seq.mpr ?_
    generalize hK1 : After _ _ = K1
    simp [-ok_seq]
    subst hK1
    rw [after_nx]
    refine ok_seq.mpr ?_
    generalize hK1 : After _ _ = K1
    simp [-ok_seq]
    refine ⟨rg62_of (by omega), ?_⟩
    refine (ok_foldC nD (stL p row N) (fun late e => ∃ x5 x7 x8 x9 : Option Val, e = [some (fz (eP p)), some (fz (nD N)), some (fz (nD n)), some (fz (.tuple (row.map eP))), x5, some ⟨.list (late.map eP), 1⟩, x7, x8, x9]) ?_ hst ⟨_, _, _, _, rfl⟩).imp fun r hr => ?_
    · rintro i late late' e hst ⟨x5, x7, x8, x9, rfl⟩
      unfold stL at hst
      split at hst
      case isFalse => cases hst
      rename_i hc
      rw [Bool.and_eq_true] at hc
      have hl := Nat.le_of_ble_eq_true hc.1
      have hi := Nat.le_of_ble_eq_true hc.2
      cases hb : bestOf p row N i with
      | none => rw [hb] at hst; cases hst
      | some b =>
      rw [hb] at hst
      cases hst
      rw [nmT_def, ok_some]
      refine ok_seq.mpr ?_
      generalize hK2 : After _ _ = K2
      simp [-ok_seq, two_le]
      subst hK2
      rw [after_nx]
      refine ok_seq.mpr ?_
      generalize hK2 : After _ _ = K2
      simp [-ok_seq]
      refine (t_lets hN hi).imp fun r hr => ?_
      rw [hr]
      simp [-ok_seq, imm_range]
      refine (ok_foldC nD (stB p row i) (fun b e => ∃ x9 : Option Val, e = [some (fz (eP p)), some (fz (nD N)), some (fz (nD n)), some (fz (.tuple (row.map eP))), x5, some ⟨.list (late.map eP), 1⟩, some (fz (nD i)), some (fz (eP b)), x9]) ?_ hb ⟨_, rfl⟩).imp fun r hr => ?_
      · rintro s b b' e hst ⟨x9, rfl⟩
        unfold stB at hst
        cases hm : meanAt p row i s with
        | none => rw [hm] at hst; cases hst
        | some m =>
        rw [hm] at hst
        dsimp only [Option.bind] at hst
        split at hst
        case isFalse => cases hst
        rename_i hc
        rw [Bool.and_eq_true] at hc
        cases hst
        have ho : Ok (meanAt p row i s) fun v => v = m := ⟨_, hm, rfl⟩
        simp
        refine (t_mean0 ho).imp fun r ⟨v, hr, hv⟩ => ?_
        rw [hr, hv]
        simp
        refine (t_more hc.1 hc.2).imp fun r hr => ?_
        rw [hr]
        simp
      · obtain ⟨f, e⟩ := r
        obtain ⟨rfl, x9, rfl⟩ := hr
        subst hK2
        rw [after_nx]
        simp [ownL]
        exact sz_lt (by omega)
    · obtain ⟨f, e⟩ := r
      obtain ⟨rfl, x5, x7, x8, x9, rfl⟩ := hr
      subst hK1
      rw [after_nx]
      simp
  · obtain ⟨f, e⟩ := r
    obtain ⟨rfl, x5, x6, x7, x8, x9, rfl⟩ := hr
    subst hK
    rw [after_nx]
    simp
end Law
end
section
set_option Elab.async false
set_option linter.all false
set_option maxRecDepth 100000
set_option maxHeartbeats 4000000
set_option exponentiation.threshold 10000
namespace Law
open PySem L2 Dn
@[simp] theorem isi_eq {T : String} {d : D} : isiO T [d] = some (fz (.bool (isT T d))) := rfl
@[simp] theorem isT_tup {ds : List D} : isT "tuple" (.tuple ds) = true := rfl
@[simp] theorem isT_eP {x : Pr} : isT "tuple" (eP x) = true := rfl
@[simp] theorem isT_int {n : Nat} : isT "int" (nD n) = true := rfl
@[simp] theorem isT_bool {n : Nat} : isT "bool" (nD n) = false := rfl
@[simp] theorem len_eP {x : Pr} : lenO [eP x] = some (fz (nD 2)) := rfl
@[simp] theorem items_eP {x : Pr} : itemsD (eP x) = some ([x.1, x.2].map nD) := rfl
@[simp] theorem andE_def {f g : RE} {env : Ev} : andE f g env = (f env).bind fun p => match p.1.d with
  | .bool c => if c = true then g p.2 else some (fz (.bool false), p.2)
  | _ => none := by
  unfold andE
  cases f env with
  | none => rfl
  | some p =>
    obtain ⟨⟨d, n⟩, e⟩ := p
    dsimp only [Option.bind]
    cases d with
    | bool c => cases c <;> rfl
    | _ => rfl
@[simp] theorem notE_def' {f : RE} {env : Ev} : notE f env = (f env).bind fun p => match p.1.d with
  | .bool c => some (fz (.bool (!c)), p.2)
  | _ => none := rfl
def okP (x : Pr) : Bool := decide (x.1 ≤ x.2) && decide (0 < x.2) && decide (Nat.gcd x.1 x.2 = 1)
theorem t_isplay {x : Pr} (h : okP x = true) : Ok (d_is_play_chance [fz (eP x)]) fun r => r.1 = fz (.bool true) := by
  unfold okP at h
  simp only [Bool.and_eq_true, decide_eq_true_eq] at h
  obtain ⟨⟨h1, h2⟩, h3⟩ := h
  unfold d_is_play_chance b_is_play_chance
  simp only [startE, ok_run]
  refine ok_seq.mpr ?_
  generalize hK : After _ _ = K
  simp [-ok_seq]
  subst hK
  rw [after_nx]
  refine ok_seq.mpr ?_
  generalize hK : After _ _ = K
  simp only [ifS_def, notT_def, tst_def, opN_def, rN_ex, lcE_def, seqI_def, nmE_def, at_zero, ok_bind, ok_map, ok_some, items_eP, if_true, Option.map_some, Option.bind_some]
  rw [ok_guard]
  refine ⟨by simp [two_le], ?_⟩
  rw [lcL_all nD (fun _ => .bool true) (fun i hi => ?_)]
  · simp [-ok_seq]
    have hb : boolsD [PyData.bool true, PyData.bool true] = some [true, true] := rfl
    simp [-ok_seq, hb]
    subst hK
    rw [after_nx]
    simp [h1, h2]
    refine (t_gcd0 x.1 x.2).imp fun r hr => ?_
    rw [hr, h3]
    simp
  · simp
structure Judged (p : Pr) (N : Nat) (row : List Pr) : Prop where
  ok : ∀ x ∈ row, okP x = true
  len : row.length = N + 1
  last : row[N]? = some (1, 1)
  st : ∀ i, i ≤ N → ∀ s, s < min i (N - i) + 1 → ∃ m x, meanAt p row i s = some m ∧ row[i]? = some x ∧ limP x = true ∧ limP m = true ∧ less x m = false
def judgeC (p : Pr) (N : Nat) (row : List Pr) : Bool := row.all okP && decide (row.length = N + 1) && decide (row[N]? = some (1, 1)) && (List.range (N + 1)).all fun i => (List.range (min i (N - i) + 1)).all fun s => match meanAt p row i s, row[i]? with
  | some m, some x => limP x && limP m && !less x m
  | _, _ => false
theorem judged {p : Pr} {N : Nat} {row : List Pr} (h : judgeC p N row = true) : Judged p N row := by
  unfold judgeC at h
  rw [Bool.and_eq_true, Bool.and_eq_true, Bool.and_eq_true, decide_eq_true_eq, decide_eq_true_eq] at h
  obtain ⟨⟨⟨h1, h2⟩, h3⟩, h4⟩ := h
  refine ⟨List.all_eq_true.mp h1, h2, h3, fun i hi s hs => ?_⟩
  have h := List.all_eq_true.mp h4 i (List.mem_range.mpr (by omega))
  have h := List.all_eq_true.mp h s (List.mem_range.mpr hs)
  split at h
  · rename_i m x e1 e2
    rw [Bool.and_eq_true, Bool.and_eq_true] at h
    exact ⟨m, x, e1, e2, h.1.1, h.1.2, by simpa using h.2⟩
  · cases h
theorem t_judge {p : Pr} {N : Nat} {row : List Pr} (hN : N ≤ 1000) (J : Judged p N row) : Ok (d_judge_bound [fz (eP p), fz (nD N), fz (.tuple (row.map eP))]) fun r => r.1 = fz .none := by
  unfold d_judge_bound b_judge_bound
  simp only [startE, ok_run]
  refine ok_seq.mpr ?_
  generalize hK : After _ _ = K
  have hl := J.len
  simp [-ok_seq, hl]
  refine ⟨sz_ok (by omega), ?_⟩
  rw [lcL_all eP (fun _ => .bool true) (fun x hx => ?_)]
  · have hb : boolsD (row.map fun _ => PyData.bool true) = some (row.map fun _ => true) := boolsD_map (g := fun _ => true) row
    rw [ok_some]
    dsimp only
    rw [hb, ok_some]
    have ha : (row.map fun _ => true).all id = true := by
      rw [List.all_eq_true]
      intro x hx
      obtain ⟨_, _, rfl⟩ := List.mem_map.mp hx
      rfl
    simp [-ok_seq]
    subst hK
    rw [after_nx]
    refine ok_seq.mpr ?_
    generalize hK : After _ _ = K
    have e11 : PyData.tuple [nD 1, nD 1] = eP (1, 1) := rfl
    have s11 : shortP (1, 1) = true := by
      unfold shortP
      rw [Bool.and_eq_true]
      exact ⟨Nat.blt_eq.mpr (Nat.one_lt_two_pow (by decide)), Nat.blt_eq.mpr (Nat.one_lt_two_pow (by decide))⟩
    simp [-ok_seq, J.last, two_le, e11, nes_eP s11 s11]
    subst hK
    rw [after_nx]
    refine ok_seq.mpr ?_
    generalize hK : After _ _ = K
    simp [-ok_seq]
    refine ⟨rg62_of (by omega), ?_⟩
    refine ok_loop (fun i e => ∃ x3 x4 : Option Val, e = [some (fz (eP p)), some (fz (nD N)), some (fz (.tuple (row.map eP))), x3, x4, none]) (k := 0) ⟨_, _, rfl⟩ ?_ ?_
    · rintro i d e hd ⟨x3, x4, rfl⟩
      obtain ⟨hi, rfl⟩ := nD_get hd
      simp [-ok_seq]
      refine (t_lets hN (show i ≤ N by omega)).imp fun r hr => ?_
      rw [hr]
      simp [-ok_seq, imm_range]
      refine ok_loop (fun s e => ∃ x4 : Option Val, e = [some (fz (eP p)), some (fz (nD N)), some (fz (.tuple (row.map eP))), some (fz (nD i)), x4, none]) (k := 0) ⟨_, rfl⟩ ?_ ?_
      · rintro s d e hd ⟨x4, rfl⟩
        obtain ⟨hs, rfl⟩ := nD_get hd
        obtain ⟨m, x, e1, e2, l1, l2, l3⟩ := J.st i (by omega) s hs
        have ho : Ok (meanAt p row i s) fun v => v = m := ⟨_, e1, rfl⟩
        simp [-ok_seq, e2]
        refine (t_mean0 ho).imp fun r ⟨v, hr, hv⟩ => ?_
        rw [hr, hv]
        simp [-ok_seq]
        refine (t_less0 l1 l2).imp fun r hr => ?_
        rw [hr, l3]
        simp
      · rintro e ⟨x4, rfl⟩
        simp
    · rintro e ⟨x3, x4, rfl⟩
      subst hK
      rw [after_nx]
      simp
  · simp
    refine (t_isplay (J.ok x hx)).imp fun r hr => ?_
    rw [hr]
    simp
theorem t_great1 {p : Pr} {N : Nat} {row : List Pr} (h2 : p.2 ≤ 12) (hN : N ≤ 100) (hp : p.2 < 2 * p.1) (hl : p.1 ≤ 12) (h : shyRow p N = some row) : Ok (d_greatest_row [fz (eP p), fz (nD N)]) fun r => r.1 = fz (.tuple (row.map eP)) := by
  have hm : mulOkN 2 p.1 = true := mulOkN_of (j := 2) (k := 10) (by decide) (by omega) (by decide) (by decide)
  unfold d_greatest_row b_greatest_row
  simp only [startE, ok_run]
  simp [hm, hp]
  refine (t_shyrow h2 hN h).imp fun r hr => ?_
  rw [hr]
  simp [imm_row]
theorem t_great0 {p : Pr} {N : Nat} {row : List Pr} (hN : N ≤ 100) (hp : 2 * p.1 ≤ p.2) (hl : p.1 ≤ 12) (h : boldRow p N = some row) : Ok (d_greatest_row [fz (eP p), fz (nD N)]) fun r => r.1 = fz (.tuple (row.map eP)) := by
  have hm : mulOkN 2 p.1 = true := mulOkN_of (j := 2) (k := 10) (by decide) (by omega) (by decide) (by decide)
  unfold d_greatest_row b_greatest_row
  simp only [startE, ok_run]
  simp [hm, show ¬ p.2 < 2 * p.1 by omega]
  refine (t_boldrow hN h).imp fun r hr => ?_
  rw [hr]
  simp [imm_row]
end Law
end
section
set_option Elab.async false
set_option linter.all false
set_option maxRecDepth 100000
set_option maxHeartbeats 4000000
set_option exponentiation.threshold 10000
namespace Law
open PySem L2 Dn
def stepW (p : Pr) (N : Nat) (_ : Nat) (row : List Pr) : Option (List Pr) := mapC (fun i => meanAt p row i (min i (N - i))) (List.range (N + 1))
def withinC (p : Pr) (N n : Nat) : Option (List Pr) := foldC (stepW p N) (List.range n) (first N)
theorem t_within {p : Pr} {N n : Nat} {row : List Pr} (h1 : 1 ≤ N) (hN : N ≤ 1000) (hn : n ≤ 1000) (h : withinC p N n = some row) : Ok (d_bold_within [fz (eP p), fz (nD N), fz (nD n)]) fun r => r.1 = fz (.tuple (row.map eP)) := by
  unfold d_bold_within b_bold_within
  simp only [startE, ok_run]
  refine ok_seq.mpr ?_
  generalize hK : After _ _ = K
  simp [-ok_seq]
  refine (t_first0 h1 hN).imp fun r hr => ?_
  rw [hr]
  simp [-ok_seq, imm_row]
  subst hK
  rw [after_nx]
  refine ok_seq.mpr ?_
  generalize hK : After _ _ = K
  simp [-ok_seq]
  refine ⟨rg62_of (by omega), ?_⟩
  refine (ok_foldC nD (stepW p N) (fun row e => ∃ x5 x6 : Option Val, e = [some (fz (eP p)), some (fz (nD N)), some (fz (nD n)), some (fz (.tuple (row.map eP))), x5, x6]) ?_ h ⟨_, _, rfl⟩).imp fun r hr => ?_
  · rintro lap row row' e hst ⟨x5, x6, rfl⟩
    simp [-ok_seq]
    refine ⟨rg62_of (by omega), sz_ok (by omega), ?_⟩
    rw [lcL_mapC nD eP (fun i => meanAt p row i (min i (N - i))) (fun i hi v hv => ?_) hst]
    · simp
    · have hi := List.mem_range.mp hi
      have ho : Ok (meanAt p row i (min i (N - i))) fun x => x = v := ⟨_, hv, rfl⟩
      simp [subO_nD (show i ≤ N by omega)]
      refine (t_mean0 ho).imp fun r ⟨w, hr, hw⟩ => ?_
      rw [hr, hw]
      simp
  · obtain ⟨f, e⟩ := r
    obtain ⟨rfl, x5, x6, rfl⟩ := hr
    subst hK
    rw [after_nx]
    simp
/-- none of the first is below the second's -/
def noLess (a b : List Pr) : Bool := a.all shortP && b.all shortP && (a.zip b).all fun x => !less x.1 x.2
def fewC (p : Pr) (f : Nat) : Bool := match boldRow p f with
  | some bl => (List.range 7).all fun n => match bestC p f n with
    | some most => noLess bl most
    | none => false
  | none => false
def lowC (p : Pr) (N : Nat) (row : List Pr) : Bool := judgeC p N row && (match shyRow p N with
  | some sh => noLess row sh
  | none => false)
def goodC (p : Pr) (N : Nat) : Bool := match boldRow p N with
  | none => false
  | some row => decide (row[0]? = some (0, 1)) && decide (row[N]? = some (1, 1)) && row.all shortP && (row.all fun x => decide (cutC x.1 x.2 = some x)) &&
      ((List.range N).all fun i => if i = 0 then true else decide (meanAt p row i (min i (N - i)) = row[i]?)) &&
      ((List.range 7).all fun n => match withinC p N n, withinC p N (n + 1) with
        | some one, some other => noLess row other && noLess other one
        | _, _ => false) &&
      (if 2 * p.1 ≤ p.2 then lowC p N row else match shyRow p N with
        | some sh => noLess sh row
        | none => false)
def goodQ (q : Nat) : Bool := (List.range q).all fun a => if 0 < a ∧ Nat.gcd a q = 1 then (List.range 17).all fun N => if 0 < N then goodC (a, q) N else true else true
def fewQ (q : Nat) : Bool := (List.range q).all fun a => if 0 < a ∧ Nat.gcd a q = 1 ∧ 2 * a ≤ q then (List.range 9).all fun N => if 0 < N then fewC (a, q) N else true else true
set_option maxRecDepth 1000000 in
theorem good_q2 : goodQ 2 = true := by decide +kernel
set_option maxRecDepth 1000000 in
theorem good_q3 : goodQ 3 = true := by decide +kernel
set_option maxRecDepth 1000000 in
theorem good_q4 : goodQ 4 = true := by decide +kernel
set_option maxRecDepth 1000000 in
theorem good_q5 : goodQ 5 = true := by decide +kernel
set_option maxRecDepth 1000000 in
theorem good_q6 : goodQ 6 = true := by decide +kernel
set_option maxRecDepth 1000000 in
theorem good_q7 : goodQ 7 = true := by decide +kernel
set_option maxRecDepth 1000000 in
theorem good_q8 : goodQ 8 = true := by decide +kernel
set_option maxRecDepth 1000000 in
theorem good_q9 : goodQ 9 = true := by decide +kernel
set_option maxRecDepth 1000000 in
theorem good_q10 : goodQ 10 = true := by decide +kernel
set_option maxRecDepth 1000000 in
theorem good_q11 : goodQ 11 = true := by decide +kernel
set_option maxRecDepth 1000000 in
theorem good_q12 : goodQ 12 = true := by decide +kernel
set_option maxRecDepth 1000000 in
theorem few_q2 : fewQ 2 = true := by decide +kernel
set_option maxRecDepth 1000000 in
theorem few_q3 : fewQ 3 = true := by decide +kernel
set_option maxRecDepth 1000000 in
theorem few_q4 : fewQ 4 = true := by decide +kernel
set_option maxRecDepth 1000000 in
theorem few_q5 : fewQ 5 = true := by decide +kernel
set_option maxRecDepth 1000000 in
theorem few_q6 : fewQ 6 = true := by decide +kernel
set_option maxRecDepth 1000000 in
theorem few_q7 : fewQ 7 = true := by decide +kernel
set_option maxRecDepth 1000000 in
theorem few_q8 : fewQ 8 = true := by decide +kernel
set_option maxRecDepth 1000000 in
theorem few_q9 : fewQ 9 = true := by decide +kernel
set_option maxRecDepth 1000000 in
theorem few_q10 : fewQ 10 = true := by decide +kernel
set_option maxRecDepth 1000000 in
theorem few_q11 : fewQ 11 = true := by decide +kernel
set_option maxRecDepth 1000000 in
theorem few_q12 : fewQ 12 = true := by decide +kernel
end Law
end
section
set_option Elab.async false
set_option linter.all false
set_option maxRecDepth 100000
set_option maxHeartbeats 4000000
set_option exponentiation.threshold 10000
namespace Law
open PySem L2 Dn
theorem noLess_of {a b : List Pr} (h : noLess a b = true) : Short a ∧ Short b ∧ ∀ x ∈ a.zip b, less x.1 x.2 = false := by
  unfold noLess at h
  rw [Bool.and_eq_true, Bool.and_eq_true] at h
  exact ⟨List.all_eq_true.mp h.1.1, List.all_eq_true.mp h.1.2, fun x hx => by simpa using List.all_eq_true.mp h.2 x hx⟩
structure NoLess (a b : List Pr) : Prop where
  sa : Short a
  sb : Short b
  z : ∀ x ∈ a.zip b, less x.1 x.2 = false
theorem noLess' {a b : List Pr} (h : noLess a b = true) : NoLess a b := let ⟨x, y, z⟩ := noLess_of h; ⟨x, y, z⟩
structure Good (p : Pr) (N : Nat) (row : List Pr) : Prop where
  r : boldRow p N = some row
  r0 : row[0]? = some (0, 1)
  rN : row[N]? = some (1, 1)
  s : Short row
  c : ∀ x ∈ row, cutC x.1 x.2 = some x
  m : ∀ i, 1 ≤ i → i < N → ∃ v, meanAt p row i (min i (N - i)) = some v ∧ row[i]? = some v
  w : ∀ n, n ≤ 6 → ∃ one other, withinC p N n = some one ∧ withinC p N (n + 1) = some other ∧ NoLess row other ∧ NoLess other one
  lo : 2 * p.1 ≤ p.2 → Judged p N row ∧ ∃ sh, shyRow p N = some sh ∧ NoLess row sh
  hi : ¬ 2 * p.1 ≤ p.2 → ∃ sh, shyRow p N = some sh ∧ NoLess sh row
theorem good_of {p : Pr} {N : Nat} (h : goodC p N = true) : ∃ row, Good p N row := by
  unfold goodC at h
  split at h
  · cases h
  · rename_i row hr
    have hlen : row.length = N + 1 := by rw [mapC_len hr, List.length_range]
    simp only [Bool.and_eq_true, decide_eq_true_eq] at h
    obtain ⟨⟨⟨⟨⟨⟨h1, h2⟩, h3⟩, h4⟩, h5⟩, h6⟩, h7⟩ := h
    refine ⟨row, hr, h1, h2, List.all_eq_true.mp h3, fun x hx => of_decide_eq_true (List.all_eq_true.mp h4 x hx), fun i hi hN => ?_, fun n hn => ?_, fun hp => ?_, fun hp => ?_⟩
    · have h := List.all_eq_true.mp h5 i (List.mem_range.mpr hN)
      rw [if_neg (by omega)] at h
      have h := of_decide_eq_true h
      rw [List.getElem?_eq_getElem (by omega)] at h
      exact ⟨_, h, List.getElem?_eq_getElem (by omega)⟩
    · have h := List.all_eq_true.mp h6 n (List.mem_range.mpr (by omega))
      split at h
      · rename_i one other e1 e2
        rw [Bool.and_eq_true] at h
        exact ⟨one, other, e1, e2, noLess' h.1, noLess' h.2⟩
      · cases h
    · rw [if_pos hp] at h7
      unfold lowC at h7
      rw [Bool.and_eq_true] at h7
      refine ⟨judged h7.1, ?_⟩
      have h := h7.2
      split at h
      · rename_i sh e
        exact ⟨sh, e, noLess' h⟩
      · cases h
    · rw [if_neg hp] at h7
      split at h7
      · rename_i sh e
        exact ⟨sh, e, noLess' h7⟩
      · cases h7
theorem few_of {p : Pr} {f : Nat} (h : fewC p f = true) : ∃ bl, boldRow p f = some bl ∧ ∀ n, n ≤ 6 → ∃ most, bestC p f n = some most ∧ NoLess bl most := by
  unfold fewC at h
  split at h
  · rename_i bl e
    refine ⟨bl, e, fun n hn => ?_⟩
    have h := List.all_eq_true.mp h n (List.mem_range.mpr (by omega))
    split at h
    · rename_i most em
      exact ⟨most, em, noLess' h⟩
    · cases h
  · cases h
theorem good_q {q : Nat} (h1 : 2 ≤ q) (h2 : q ≤ 12) : goodQ q = true ∧ fewQ q = true := by
  have : q = 2 ∨ q = 3 ∨ q = 4 ∨ q = 5 ∨ q = 6 ∨ q = 7 ∨ q = 8 ∨ q = 9 ∨ q = 10 ∨ q = 11 ∨ q = 12 := by omega
  rcases this with rfl | rfl | rfl | rfl | rfl | rfl | rfl | rfl | rfl | rfl | rfl
  · exact ⟨good_q2, few_q2⟩
  · exact ⟨good_q3, few_q3⟩
  · exact ⟨good_q4, few_q4⟩
  · exact ⟨good_q5, few_q5⟩
  · exact ⟨good_q6, few_q6⟩
  · exact ⟨good_q7, few_q7⟩
  · exact ⟨good_q8, few_q8⟩
  · exact ⟨good_q9, few_q9⟩
  · exact ⟨good_q10, few_q10⟩
  · exact ⟨good_q11, few_q11⟩
  · exact ⟨good_q12, few_q12⟩
theorem good {a q N : Nat} (h1 : 0 < a) (h2 : a < q) (h3 : q ≤ 12) (hg : Nat.gcd a q = 1) (h4 : 1 ≤ N) (h5 : N ≤ 16) : ∃ r, Good (a, q) N r := by
  have h := (good_q (by omega) h3).1
  unfold goodQ at h
  have h := List.all_eq_true.mp h a (List.mem_range.mpr h2)
  rw [if_pos ⟨h1, hg⟩] at h
  have h := List.all_eq_true.mp h N (List.mem_range.mpr (by omega))
  rw [if_pos (by omega)] at h
  exact good_of h
theorem few {a q f : Nat} (h1 : 0 < a) (h2 : a < q) (h3 : q ≤ 12) (hg : Nat.gcd a q = 1) (hh : 2 * a ≤ q) (h4 : 1 ≤ f) (h5 : f ≤ 8) : ∃ bl, boldRow (a, q) f = some bl ∧ ∀ n, n ≤ 6 → ∃ most, bestC (a, q) f n = some most ∧ NoLess bl most := by
  have h := (good_q (by omega) h3).2
  unfold fewQ at h
  have h := List.all_eq_true.mp h a (List.mem_range.mpr h2)
  rw [if_pos ⟨h1, hg, hh⟩] at h
  have h := List.all_eq_true.mp h f (List.mem_range.mpr (by omega))
  rw [if_pos (by omega)] at h
  exact few_of h
theorem t_draw (s : Src) {side : Nat} (hs : side = 0 ∨ side = 2) : Ok (d_law_draw_p [encS s, fz (nD side)]) fun r => ∃ a b s', r.1 = fz (eP (a, b)) ∧ at_ r.2 0 = some (encS s') ∧ 0 < a ∧ a < b ∧ b ≤ 12 ∧ Nat.gcd a b = 1 := by
  unfold d_law_draw_p b_law_draw_p
  simp only [startE, ok_run]
  simp
  refine (t_pick s (m := 11) (by omega)).imp fun r hr => ?_
  obtain ⟨q, s1, rfl, hq⟩ := hr
  have hq := hq (by omega)
  simp [subO_nD (show 1 ≤ 2 + q by omega)]
  refine (t_pick s1 (m := 1 + q) (by omega)).imp fun r hr => ?_
  obtain ⟨a, s2, rfl, ha⟩ := hr
  have ha := ha (by omega)
  have hm : mulOkN 2 (1 + a) = true := mulOkN_of (j := 2) (k := 10) (by decide) (by omega) (by decide) (by decide)
  have fin : ∀ a b : Nat, 0 < a → a < b → b ≤ 12 → Ok (d_law_cut [fz (nD a), fz (nD b)]) fun r => ∃ a b, r.1 = fz (eP (a, b)) ∧ 0 < a ∧ a < b ∧ b ≤ 12 ∧ Nat.gcd a b = 1 := fun a b h1 h2 h3 => by
    have hg : 0 < Nat.gcd a b := Nat.gcd_pos_of_pos_left _ h1
    have e : max 1 (Nat.gcd a b) = Nat.gcd a b := by omega
    have hc : cutC a b = some (cut a b) := by
      unfold cutC
      have hl : lim b = true := Nat.ble_eq.mpr (Nat.le_trans h3 (Nat.le_of_ble_eq_true rfl))
      have hb : Nat.beq b 0 = false := by
        cases hb : Nat.beq b 0 with
        | false => rfl
        | true => exact absurd (Nat.eq_of_beq_eq_true hb) (by omega)
      rw [hl, hb]
      rfl
    have ho : Ok (cutC a b) fun v => v = cut a b := ⟨_, hc, rfl⟩
    refine (t_cut1 ho).imp fun r ⟨v, hr, hv⟩ => ⟨a / Nat.gcd a b, b / Nat.gcd a b, ?_, ?_, ?_, ?_, ?_⟩
    · rw [hr, hv]; unfold cut; rw [e]
    · exact Nat.div_pos (Nat.le_of_dvd h1 (Nat.gcd_dvd_left a b)) hg
    · have d1 := Nat.div_mul_cancel (Nat.gcd_dvd_left a b)
      have d2 := Nat.div_mul_cancel (Nat.gcd_dvd_right a b)
      refine Nat.lt_of_mul_lt_mul_right (a := Nat.gcd a b) ?_
      rw [d1, d2]; exact h2
    · exact Nat.le_trans (Nat.div_le_self _ _) h3
    · exact Nat.gcd_div_gcd_div_gcd_of_pos_left h1
  rcases hs with rfl | rfl
  · simp [hm]
    by_cases hc : 2 + q < 2 * (1 + a)
    · simp [hc, subO_nD (show 1 + a ≤ 2 + q by omega)]
      refine (fin _ _ ?_ ?_ ?_).imp fun r hr => ?_
      · omega
      · omega
      · omega
      obtain ⟨x, y, hr, h1, h2, h3, h4⟩ := hr
      rw [hr]
      simp
      exact ⟨x, y, rfl, ⟨_, rfl⟩, h1, h2, h3, h4⟩
    · simp [hc]
      refine (fin _ _ ?_ ?_ ?_).imp fun r hr => ?_
      · omega
      · omega
      · omega
      obtain ⟨x, y, hr, h1, h2, h3, h4⟩ := hr
      rw [hr]
      simp
      exact ⟨x, y, rfl, ⟨_, rfl⟩, h1, h2, h3, h4⟩
  · simp [hm]
    refine (fin _ _ ?_ ?_ ?_).imp fun r hr => ?_
    · omega
    · omega
    · omega
    obtain ⟨x, y, hr, h1, h2, h3, h4⟩ := hr
    rw [hr]
    simp
    exact ⟨x, y, rfl, ⟨_, rfl⟩, h1, h2, h3, h4⟩
@[simp] theorem tupT_eP {ts : List TgD} {x : Pr} {env : Ev} : tupT ts (eP x) env = tgsD ts [nD x.1, nD x.2] env := rfl
theorem shw_eP {x : Pr} (h : shortP x = true) : shw (eP x) = true := shw_of (sm_eP h) (by omega) (Nat.le_trans depth_eP (by decide)) (Nat.le_trans cost_eP (sz_ok (by omega)))
theorem s01 : shortP (0, 1) = true := by
  unfold shortP
  rw [Bool.and_eq_true]
  exact ⟨Nat.blt_eq.mpr (Nat.pow_pos (by decide)), Nat.blt_eq.mpr (Nat.one_lt_two_pow (by decide))⟩
theorem s11 : shortP (1, 1) = true := by
  unfold shortP
  rw [Bool.and_eq_true]
  exact ⟨Nat.blt_eq.mpr (Nat.one_lt_two_pow (by decide)), Nat.blt_eq.mpr (Nat.one_lt_two_pow (by decide))⟩
end Law
end
section
set_option Elab.async false
set_option linter.all false
set_option maxRecDepth 100000
set_option maxHeartbeats 4000000
set_option exponentiation.threshold 10000
namespace Law
open PySem L2 Dn
theorem foldC_inv {α σ : Type} {st : α → σ → Option σ} (P : σ → Prop) (hs : ∀ x s t, P s → st x s = some t → P t) : ∀ {xs : List α} {s t : σ}, P s → foldC st xs s = some t → P t
  | [], s, t, h, e => by cases e; exact h
  | x :: xs, s, t, h, e => by
    unfold foldC at e
    cases q : st x s with
    | none => rw [q] at e; cases e
    | some u => rw [q] at e; exact foldC_inv P hs (hs x s u h q) e
theorem within_len {p : Pr} {N n : Nat} {row : List Pr} (h : withinC p N n = some row) : row.length = N + 1 :=
  foldC_inv (fun r : List Pr => r.length = N + 1) (fun x s t _ e => by rw [mapC_len (show mapC _ _ = some t from e), List.length_range]) first_len h
theorem body (s : Src) :
    Ok (b_law [none, some (encS s), none, none, none, none, none, none, none, none, none, none, none]) fun r => r.1 = .rt (fz (.bool true)) := by
  unfold b_law
  refine ok_seq.mpr ?_
  generalize hK0 : After _ _ = K0
  simp [-ok_seq]
  refine ⟨rg62_of (by omega), ?_⟩
  refine ok_loop (fun j e => ∃ (s : Src) (x2 x3 x4 x5 x6 x7 x8 x9 x10 x11 x12 : Option Val), e = [none, some (encS s), x2, x3, x4, x5, x6, x7, x8, x9, x10, x11, x12]) (k := 0) ⟨_, _, _, _, _, _, _, _, _, _, _, _, rfl⟩ ?_ ?_
  · rintro lap d e hd ⟨s, x2, x3, x4, x5, x6, x7, x8, x9, x10, x11, x12, rfl⟩
    obtain ⟨hl, rfl⟩ := nD_get hd
    have hside : ∃ side, ([nD 0, nD 2] : List D)[lap]? = some (nD side) ∧ (side = 0 ∨ side = 2) := by
      rcases lap with _ | _ | lap
      · exact ⟨0, rfl, .inl rfl⟩
      · exact ⟨2, rfl, .inr rfl⟩
      · omega
    obtain ⟨side, hsd, hs2⟩ := hside
    rw [nmT_def, ok_some]
    refine ok_seq.mpr ?_
    generalize hK : After _ _ = K
    simp [-ok_seq, hsd, two_le, show 3 ≤ sizeLine from by decide]
    refine (t_draw s hs2).imp fun r hr => ?_
    obtain ⟨a, q, s1, hr1, hr2, ha, haq, hq, hgcd⟩ := hr
    rw [hr1, hr2]
    simp [-ok_seq]
    refine (t_pick s1 (m := 16) (by omega)).imp fun r hr => ?_
    obtain ⟨N0, s2, rfl, hN⟩ := hr
    have hN := hN (by omega)
    simp [-ok_seq, two_le]
    obtain ⟨N, eN⟩ : ∃ N, N = 1 + N0 := ⟨_, rfl⟩
    rw [← eN]
    have hN1 : 1 ≤ N := by omega
    have hN2 : N ≤ 16 := by omega
    clear eN hN
    subst hK
    rw [after_nx]
    obtain ⟨row, G⟩ := good ha haq hq hgcd hN1 hN2
    have hlen : row.length = N + 1 := by rw [mapC_len G.r, List.length_range]
    have hmul : mulOkN 2 a = true := mulOkN_of (j := 2) (k := 10) (by decide) (by omega) (by decide) (by decide)
    -- row
    refine ok_seq.mpr ?_
    generalize hK : After _ _ = K
    simp [-ok_seq]
    refine (t_boldrow (by omega) G.r).imp fun r hr => ?_
    rw [hr]
    simp [-ok_seq, imm_row]
    subst hK
    rw [after_nx]
    -- the first refusal
    have e01 : PyData.tuple [nD 0, nD 1] = eP (0, 1) := rfl
    have e11 : PyData.tuple [nD 1, nD 1] = eP (1, 1) := rfl
    have nn1 := nes_eP s01 s01
    have nn2 := nes_eP s11 s11
    refine ok_seq.mpr ?_
    generalize hK : After _ _ = K
    obtain ⟨b0, g0⟩ := List.getElem?_eq_some_iff.mp G.r0
    obtain ⟨bN, gN⟩ := List.getElem?_eq_some_iff.mp G.rN
    simp [-ok_seq, hlen, g0, gN, e01, e11, nn1, nn2, two_le]
    subst hK
    rw [after_nx]
    -- the second
    refine ok_seq.mpr ?_
    generalize hK : After _ _ = K
    simp [-ok_seq]
    refine ⟨⟨rg62_of (by omega), rg62_of (by omega)⟩, Nat.le_trans (sz_ok (show N ≤ 10000 by omega)) (Nat.le_succ _), ?_⟩
    rw [lcL_all nD (fun _ => .bool false) (fun i hi => ?_)]
    · rw [ok_some]
      dsimp only
      rw [boolsD_map (g := fun _ => false), ok_some, if_neg (fun hmem => by
        obtain ⟨x, hx, e⟩ := List.mem_map.mp hmem
        cases e), ok_some]
      subst hK
      rw [after_nx]
      -- i
      refine ok_seq.mpr ?_
      generalize hK : After _ _ = K
      simp [-ok_seq]
      refine (t_pick s2 (m := N + 1) (by omega)).imp fun r hr => ?_
      obtain ⟨i, s4, rfl, hi⟩ := hr
      have hi : i ≤ N := by have := hi (by omega); omega
      simp [-ok_seq]
      subst hK
      rw [after_nx]
      -- the third refusal
      obtain ⟨v, hv1, hv2⟩ := mapC_get G.r (i := i) (x := i) (List.getElem?_range (by omega))
      have hvs := G.s _ (List.mem_of_getElem? hv1)
      have ho : Ok (chanceC (a, q) N i) fun x => x = v := ⟨_, hv2, rfl⟩
      refine ok_seq.mpr ?_
      generalize hK : After _ _ = K
      simp [-ok_seq]
      refine (t_chance (by omega) hi ho).imp fun r ⟨w, hr, hw⟩ => ?_
      rw [hr, hw]
      simp [-ok_seq, hv1, shw_eP hvs]
      refine ⟨sz_ok (by omega), ?_⟩
      rw [lcL_all eP (fun _ => .bool false) (fun x hx => ?_)]
      · rw [ok_some]
        dsimp only
        rw [boolsD_map (g := fun _ => false), ok_some]
        simp [-ok_seq]
        subst hK
        rw [after_nx]
        -- n
        refine ok_seq.mpr ?_
        generalize hK : After _ _ = K
        simp [-ok_seq]
        refine (t_pick s4 (m := 7) (by omega)).imp fun r hr => ?_
        obtain ⟨n, s5, rfl, hn⟩ := hr
        have hn := hn (by omega)
        simp [-ok_seq]
        subst hK
        rw [after_nx]
        obtain ⟨one, other, hw1, hw2, nl1, nl2⟩ := G.w n (by omega)
        have lo1 := within_len hw1
        have lo2 := within_len hw2
        -- one, other
        refine ok_seq.mpr ?_
        generalize hK : After _ _ = K
        simp [-ok_seq]
        refine (t_within (by omega) (by omega) (by omega) hw1).imp fun r hr => ?_
        rw [hr]
        simp [-ok_seq, imm_row]
        refine (t_within (by omega) (by omega) (by omega) hw2).imp fun r hr => ?_
        rw [hr]
        simp [-ok_seq, imm_row]
        subst hK
        rw [after_nx]
        refine ok_seq.mpr ?_
        generalize hK : After _ _ = K
        simp [-ok_seq]
        rw [pairsD_map]
        refine ⟨?_, ?_⟩
        · rw [List.length_map, List.length_zip]; exact sz_ok (by omega)
        rw [lcL_all (fun x : Pr × Pr => .tuple [eP x.1, eP x.2]) (fun x => .bool (less x.1 x.2)) fun x hx => ?_]
        · rw [ok_some]
          dsimp only
          rw [boolsD_map, ok_some, if_neg (fun hmem => by
            obtain ⟨x, hx, e⟩ := List.mem_map.mp hmem
            rw [nl1.z x hx] at e
            cases e)]
          simp [-ok_seq]
          rw [pairsD_map]
          refine ⟨?_, ?_⟩
          · rw [List.length_map, List.length_zip]; exact sz_ok (by omega)
          rw [lcL_all (fun x : Pr × Pr => .tuple [eP x.1, eP x.2]) (fun x => .bool (less x.1 x.2)) fun x hx => ?_]
          · rw [ok_some]
            dsimp only
            rw [boolsD_map, ok_some, if_neg (fun hmem => by
              obtain ⟨x, hx, e⟩ := List.mem_map.mp hmem
              rw [nl2.z x hx] at e
              cases e)]
            rw [ok_some]
            subst hK
            rw [after_nx]
            by_cases hlo : 2 * a ≤ q
            · obtain ⟨J, sh, hsh, nl3⟩ := G.lo hlo
              have lsh : sh.length = N + 1 := by rw [mapC_len hsh, List.length_range]
              obtain ⟨bl, hbl, hfew⟩ := few ha haq hq hgcd hlo (show 1 ≤ min N 8 by omega) (show min N 8 ≤ 8 by omega)
              have lbl : bl.length = min N 8 + 1 := by rw [mapC_len hbl, List.length_range]
              obtain ⟨most, hmost, nl4⟩ := hfew (min n 6) (by omega)
              simp [-ok_seq, hmul, hlo]
              refine ok_seq.mpr ?_
              generalize hK : After _ _ = K
              simp [-ok_seq]
              refine (t_judge (by omega) J).imp fun r hr => ?_
              rw [hr]
              have hnot : isnotO [.none, .none] = some (fz (.bool false)) := rfl
              simp [-ok_seq, hnot]
              refine (t_great0 (by omega) hlo (by show a ≤ 12; omega) G.r).imp fun r hr => ?_
              rw [hr]
              simp [-ok_seq, imm_row, shw_row G.s (by omega)]
              subst hK
              rw [after_nx]
              refine ok_seq.mpr ?_
              generalize hK : After _ _ = K
              simp [-ok_seq]
              refine (t_shyrow hq (by omega) hsh).imp fun r hr => ?_
              rw [hr]
              simp [-ok_seq, imm_row]
              rw [pairsD_map]
              refine ⟨?_, ?_⟩
              · rw [List.length_map, List.length_zip]; exact sz_ok (by omega)
              rw [lcL_all (fun x : Pr × Pr => .tuple [eP x.1, eP x.2]) (fun x => .bool (less x.1 x.2)) fun x hx => ?_]
              · rw [ok_some]
                dsimp only
                rw [boolsD_map, ok_some, if_neg (fun hmem => by
                  obtain ⟨x, hx, e⟩ := List.mem_map.mp hmem
                  rw [nl3.z x hx] at e
                  cases e)]
                rw [ok_some]
                subst hK
                rw [after_nx]
                refine ok_seq.mpr ?_
                generalize hK : After _ _ = K
                simp [-ok_seq]
                subst hK
                rw [after_nx]
                simp [-ok_seq]
                refine (t_boldrow (by omega) hbl).imp fun r hr => ?_
                rw [hr]
                simp [-ok_seq, imm_row]
                refine (t_best0 (by omega) (by omega) (by omega) hmost).imp fun r hr => ?_
                rw [hr]
                simp [-ok_seq, imm_row]
                rw [pairsD_map]
                refine ⟨?_, ?_⟩
                · rw [List.length_map, List.length_zip]; exact sz_ok (by omega)
                rw [lcL_all (fun x : Pr × Pr => .tuple [eP x.1, eP x.2]) (fun x => .bool (less x.1 x.2)) fun x hx => ?_]
                · rw [ok_some]
                  dsimp only
                  rw [boolsD_map, ok_some, if_neg (fun hmem => by
                    obtain ⟨x, hx, e⟩ := List.mem_map.mp hmem
                    rw [nl4.z x hx] at e
                    cases e)]
                  simp [-ok_seq]
                  exact ⟨_, rfl⟩
                · simp [-ok_seq]
                  refine (t_less (short_lim (nl4.sa _ (List.of_mem_zip hx).1)) (short_lim (nl4.sb _ (List.of_mem_zip hx).2))).imp fun r hr => ?_
                  rw [hr]
                  simp
              · simp [-ok_seq]
                refine (t_less (short_lim (nl3.sa _ (List.of_mem_zip hx).1)) (short_lim (nl3.sb _ (List.of_mem_zip hx).2))).imp fun r hr => ?_
                rw [hr]
                simp
            · obtain ⟨sh, hsh, nl3⟩ := G.hi hlo
              have lsh : sh.length = N + 1 := by rw [mapC_len hsh, List.length_range]
              simp [-ok_seq, hmul, hlo]
              refine (t_shyrow hq (by omega) hsh).imp fun r hr => ?_
              rw [hr]
              simp [-ok_seq, imm_row]
              rw [pairsD_map]
              refine ⟨?_, ?_⟩
              · rw [List.length_map, List.length_zip]; exact sz_ok (by omega)
              rw [lcL_all (fun x : Pr × Pr => .tuple [eP x.1, eP x.2]) (fun x => .bool (less x.1 x.2)) fun x hx => ?_]
              · rw [ok_some]
                dsimp only
                rw [boolsD_map, ok_some, if_neg (fun hmem => by
                  obtain ⟨x, hx, e⟩ := List.mem_map.mp hmem
                  rw [nl3.z x hx] at e
                  cases e)]
                simp [-ok_seq]
                exact ⟨_, rfl⟩
              · simp [-ok_seq]
                refine (t_less (short_lim (nl3.sa _ (List.of_mem_zip hx).1)) (short_lim (nl3.sb _ (List.of_mem_zip hx).2))).imp fun r hr => ?_
                rw [hr]
                simp
          · simp [-ok_seq]
            refine (t_less (short_lim (nl2.sa _ (List.of_mem_zip hx).1)) (short_lim (nl2.sb _ (List.of_mem_zip hx).2))).imp fun r hr => ?_
            rw [hr]
            simp
        · simp [-ok_seq]
          refine (t_less (short_lim (nl1.sa _ (List.of_mem_zip hx).1)) (short_lim (nl1.sb _ (List.of_mem_zip hx).2))).imp fun r hr => ?_
          rw [hr]
          simp
      · have ho : Ok (cutC x.1 x.2) fun w => w = x := ⟨_, G.c x hx, rfl⟩
        simp [-ok_seq, two_le]
        refine (t_cut1 ho).imp fun r ⟨w, hr, hw⟩ => ?_
        have e : PyData.tuple [nD x.1, nD x.2] = eP x := rfl
        rw [hr, hw]
        simp [e, two_le, nes_eP (G.s x hx) (G.s x hx)]
    · have hi := List.mem_range'.mp hi
      obtain ⟨j, hj, rfl⟩ := hi
      obtain ⟨v, hv1, hv2⟩ := G.m (1 + 1 * j) (by omega) (by omega)
      have hjN : 1 + 1 * j ≤ N := by omega
      have ho : Ok (meanAt (a, q) row (1 + 1 * j) (min (1 + 1 * j) (N - (1 + 1 * j)))) fun x => x = v := ⟨_, hv1, rfl⟩
      have hvs := nes_eP (G.s _ (List.mem_of_getElem? hv2)) (G.s _ (List.mem_of_getElem? hv2))
      generalize 1 + 1 * j = i at *
      simp [-ok_seq, hv2, subO_nD hjN]
      refine (t_mean1 ho).imp fun r ⟨w, hr, hw⟩ => ?_
      rw [hr, hw]
      simp [hvs]
  · rintro e ⟨s, x2, x3, x4, x5, x6, x7, x8, x9, x10, x11, x12, rfl⟩
    subst hK0
    simp
theorem main_law (ns : List Int) (_ : ns.length ≤ 63) : ∃ e, b_law (none :: some (encS (openB ns)) :: List.replicate (13 - 2) none) = some (.rt (fz (.bool true)), e) := by
  obtain ⟨⟨f, e⟩, h1, h2⟩ := body (openB ns)
  dsimp only at h2
  subst h2
  exact ⟨e, h1⟩
end Law
end
open PySem PySem.W PyProof.Rows
set_option maxHeartbeats 0 in
theorem PySem.Challenge.cw_chancesmet_k58_whole_bold_play_without_e_holds : PySem.Challenge.rw_chancesmet_k58_whole_bold_play_without_e.Holds := by
  w_on; o_law; k_head; (case hw => w_witness2)
  k_fill
  refine Dn.walk_G (l := PySem.Challenge.rw_chancesmet_k58_whole_bold_play_without_e) (n := 63) (k := 8) (x := "script") (sp := fun w => Dn.spL _) rfl (by decide) rfl ⟨⟨rfl, by decide, by decide⟩, rfl⟩ (fun w h Y => PySem.W.kIn_of Y) ?F (fun _ _ a ns hl _ hS => ⟨a, ns, rfl, hS, hl, fun _ => rfl⟩)
  case F =>
    intro w mg fa h KX G hmg
    refine' Law.all_mk KX G hmg ?a0 ?l0 ?c0 ?k0 ?a1 ?l1 ?c1 ?k1 ?a2 ?l2 ?c2 ?k2 ?a3 ?l3 ?c3 ?k3 ?a4 ?l4 ?c4 ?k4 ?a5 ?l5 ?c5 ?k5 ?a6 ?l6 ?c6 ?k6 ?a7 ?l7 ?c7 ?k7 ?a8 ?l8 ?c8 ?k8 ?a9 ?l9 ?c9 ?k9 ?a10 ?l10 ?c10 ?k10 ?a11 ?l11 ?c11 ?k11 ?a12 ?l12 ?c12 ?k12 ?a13 ?l13 ?c13 ?k13 ?a14 ?l14 ?c14 ?k14 ?a15 ?l15 ?c15 ?k15 ?a16 ?l16 ?c16 ?k16 ?a17 ?l17 ?c17 ?k17 ?a18 ?l18 ?c18 ?k18 ?a19 ?l19 ?c19 ?k19 ?a20 ?l20 ?c20 ?k20 ?a21 ?l21 ?c21 ?k21 ?a22 ?l22 ?c22 ?k22 ?a23 ?l23 ?c23 ?k23 ?a24 ?l24 ?c24 ?k24 ?a25 ?l25 ?c25 ?k25 ?z_abs ?z_all ?z_any ?z_bool ?z_int ?z_isinstance ?z_len ?z_max ?z_min ?z_range ?z_repr ?z_tuple ?z_zip Law.main_law
    (case a0 => k_is); (case l0 => k_is); (case c0 => k_is); (case k0 => k_is); (case a1 => k_is); (case l1 => k_is); (case c1 => k_is); (case k1 => k_is); (case a2 => k_is); (case l2 => k_is); (case c2 => k_is); (case k2 => k_is); (case a3 => k_is); (case l3 => k_is); (case c3 => k_is); (case k3 => k_is); (case a4 => k_is); (case l4 => k_is); (case c4 => k_is); (case k4 => k_is); (case a5 => k_is); (case l5 => k_is); (case c5 => k_is); (case k5 => k_is); (case a6 => k_is); (case l6 => k_is); (case c6 => k_is); (case k6 => k_is); (case a7 => k_is); (case l7 => k_is); (case c7 => k_is); (case k7 => k_is); (case a8 => k_is); (case l8 => k_is); (case c8 => k_is); (case k8 => k_is); (case a9 => k_is); (case l9 => k_is); (case c9 => k_is); (case k9 => k_is); (case a10 => k_is); (case l10 => k_is); (case c10 => k_is); (case k10 => k_is); (case a11 => k_is); (case l11 => k_is); (case c11 => k_is); (case k11 => k_is); (case a12 => k_is); (case l12 => k_is); (case c12 => k_is); (case k12 => k_is); (case a13 => k_is); (case l13 => k_is); (case c13 => k_is); (case k13 => k_is); (case a14 => k_is); (case l14 => k_is); (case c14 => k_is); (case k14 => k_is); (case a15 => k_is); (case l15 => k_is); (case c15 => k_is); (case k15 => k_is); (case a16 => k_is); (case l16 => k_is); (case c16 => k_is); (case k16 => k_is); (case a17 => k_is); (case l17 => k_is); (case c17 => k_is); (case k17 => k_is); (case a18 => k_is); (case l18 => k_is); (case c18 => k_is); (case k18 => k_is); (case a19 => k_is); (case l19 => k_is); (case c19 => k_is); (case k19 => k_is); (case a20 => k_is); (case l20 => k_is); (case c20 => k_is); (case k20 => k_is); (case a21 => k_is); (case l21 => k_is); (case c21 => k_is); (case k21 => k_is); (case a22 => k_is); (case l22 => k_is); (case c22 => k_is); (case k22 => k_is); (case a23 => k_is); (case l23 => k_is); (case c23 => k_is); (case k23 => k_is); (case a24 => k_is); (case l24 => k_is); (case c24 => k_is); (case k24 => k_is); (case a25 => k_is); (case l25 => k_is); (case c25 => k_is); (case k25 => k_is); (case z_abs => k_is); (case z_all => k_is); (case z_any => k_is); (case z_bool => k_is); (case z_int => k_is); (case z_isinstance => k_is); (case z_len => k_is); (case z_max => k_is); (case z_min => k_is); (case z_range => k_is); (case z_repr => k_is); (case z_tuple => k_is); (case z_zip => k_is)
