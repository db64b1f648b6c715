import PyProof.Rows.All
import Wide.All
import OpenK.AllK
import Wide.FinOn
import HandS.ForMost
import HandS.ForExc
import KE.KDictKeyed
import KE.SortData
import HandS.TupAny
import HandS.TupMul
import HandS.TupLe
import HandS.Style
import HandS.Deep
import HandS.Conv
import HandS.Defaults
import HandS.Zip
import KE.GoesEnum
import KE.GoesMore
import KE.GoesZip
import HandS.IsInst
import PyProof.P3In
import KE.KDictDisplayH
import HandS.Iter
import HandS.DictTup
import HandS.TupLen
import KE.KDictCopyH
import PyProof.Transfer
import KE.KDictSum
import KE.KDictPairs
import KE.KDictZip
import HandS.Ends
import HandS.HeadEnd
import PySem.Challenge.RW_slewchains_k04_whole_all_signals_up_to_t
import Lean
import KE.KStateDown
import HandS.More
import HandS.Words
import HandS.WordsExc
import HandS.Head0
import HandS.Head1
import HandS.Head2
import HandS.HeadHook1
import HandS.HeadHook2
set_option Elab.async false
set_option linter.all false
set_option maxRecDepth 100000
set_option maxHeartbeats 4000000
/-! VA: data D, how it lies in the heap, the state of a body, the judgements. -/
namespace VC
open PySem PySem.Spec PyProof.Rows L2

/-- data: what a value is, whatever lies where -/
inductive D where
  | non | bl (b : Bool) | int (i : Int) | str (x : Str)
  | tup (xs : List D) | lst (xs : List D) | dct (ks vs : List D)
  | ref (k : Nat) | fn (x : Str) | kst (xs : List D)
/-- what a mutable object holds -/
inductive M where
  | lst (xs : List D) | dct (ks vs : List D)
@[reducible] def M.d : M → D
  | .lst xs => .lst xs
  | .dct ks vs => .dct ks vs
/-- a value, or a mutable object that nobody else holds -/
inductive T where
  | val (d : D) | own (m : M)
@[reducible] def T.d : T → D
  | .val d => d
  | .own m => m.d
abbrev VEnv := List (Option T)
abbrev Sto := List M

mutual
/-- what a datum is as a key of a dict -/
def D.key : D → Option NestedKey
  | .non => some .none
  | .bl b => some (.num (if b = true then 1 else 0))
  | .int i => some (.num i)
  | .str x => some (.text x)
  | .tup xs => (D.keys xs).map .tup
  | .lst _ => none
  | .dct _ _ => none
  | .ref _ => none
  | .fn _ => none
  | .kst _ => none
def D.keys : List D → Option (List NestedKey)
  | [] => some []
  | x :: xs => match D.key x, D.keys xs with
    | some k, some ks => some (k :: ks)
    | _, _ => none
end

mutual
/-- a datum that may be a key: no bool, no list, of depth n at most -/
def kok : D → Nat → Bool
  | .non, _ => true
  | .int _, _ => true
  | .str _, _ => true
  | .tup xs, n => match n with
    | 0 => false
    | n + 1 => koks xs n
  | .bl _, _ => false
  | .lst _, _ => false
  | .dct _ _, _ => false
  | .ref _, _ => false
  | .fn _, _ => false
  | .kst _, _ => false
def koks : List D → Nat → Bool
  | [], _ => true
  | x :: xs, n => kok x n && koks xs n
end
mutual
theorem kok_key : ∀ (d : D) (n : Nat), kok d n = true → ∃ k, D.key d = some k ∧ k.depth ≤ n
  | .non, n, _ => ⟨_, rfl, Nat.zero_le _⟩
  | .int _, n, _ => ⟨_, rfl, Nat.zero_le _⟩
  | .str _, n, _ => ⟨_, rfl, Nat.zero_le _⟩
  | .tup xs, n, h => by
    cases n with
    | zero => simp [kok] at h
    | succ n =>
      obtain ⟨ks, h1, h2⟩ := koks_key xs n (by simpa [kok] using h)
      exact ⟨.tup ks, by simp [D.key, h1], by show NestedKey.depthAll ks + 1 ≤ n + 1; omega⟩
  | .bl _, _, h => by simp [kok] at h
  | .lst _, _, h => by simp [kok] at h
  | .dct _ _, _, h => by simp [kok] at h
  | .ref _, _, h => by simp [kok] at h
  | .fn _, _, h => by simp [kok] at h
  | .kst _, _, h => by simp [kok] at h
theorem koks_key : ∀ (ds : List D) (n : Nat), koks ds n = true → ∃ ks, D.keys ds = some ks ∧ NestedKey.depthAll ks ≤ n
  | [], n, _ => ⟨[], rfl, Nat.zero_le _⟩
  | x :: xs, n, h => by
    simp only [koks, Bool.and_eq_true] at h
    obtain ⟨k, h1, h2⟩ := kok_key x n h.1
    obtain ⟨ks, h3, h4⟩ := koks_key xs n h.2
    exact ⟨k :: ks, by simp [D.keys, h1, h3], Nat.max_le.mpr ⟨h2, h4⟩⟩
end
mutual
theorem key_inj : ∀ (d e : D) (n m : Nat), kok d n = true → kok e m = true → D.key d = D.key e → d = e
  | .non, e, _, _, _, h, q => by
    cases e with
    | non => rfl
    | int _ => simp [D.key] at q
    | str _ => simp [D.key] at q
    | tup ys => simp only [D.key] at q; cases hk : D.keys ys <;> simp [hk] at q
    | _ => simp [kok] at h
  | .int i, e, _, _, _, h, q => by
    cases e with
    | non => simp [D.key] at q
    | int j => simp only [D.key, Option.some.injEq, NestedKey.num.injEq, NestedKey.text.injEq] at q; rw [q]
    | str _ => simp [D.key] at q
    | tup ys => simp only [D.key] at q; cases hk : D.keys ys <;> simp [hk] at q
    | _ => simp [kok] at h
  | .str i, e, _, _, _, h, q => by
    cases e with
    | non => simp [D.key] at q
    | int _ => simp [D.key] at q
    | str j => simp only [D.key, Option.some.injEq, NestedKey.num.injEq, NestedKey.text.injEq] at q; rw [q]
    | tup ys => simp only [D.key] at q; cases hk : D.keys ys <;> simp [hk] at q
    | _ => simp [kok] at h
  | .tup xs, e, n, m, k, h, q => by
    cases n with
    | zero => simp [kok] at k
    | succ n =>
      cases e with
      | tup ys =>
        cases m with
        | zero => simp [kok] at h
        | succ m =>
          simp only [kok] at k h
          obtain ⟨ks, h1, _⟩ := koks_key xs n k
          obtain ⟨ls, h2, _⟩ := koks_key ys m h
          have q' : ks = ls := by simpa [D.key, h1, h2] using q
          rw [keys_inj xs ys n m k h (by rw [h1, h2, q'])]
      | non => simp [D.key] at q
      | int _ => simp [D.key] at q
      | str _ => simp [D.key] at q
      | _ => simp [kok] at h
  | .bl _, _, _, _, k, _, _ => by simp [kok] at k
  | .lst _, _, _, _, k, _, _ => by simp [kok] at k
  | .dct _ _, _, _, _, k, _, _ => by simp [kok] at k
  | .ref _, _, _, _, k, _, _ => by simp [kok] at k
  | .fn _, _, _, _, k, _, _ => by simp [kok] at k
  | .kst _, _, _, _, k, _, _ => by simp [kok] at k
theorem keys_inj : ∀ (ds es : List D) (n m : Nat), koks ds n = true → koks es m = true → D.keys ds = D.keys es → ds = es
  | [], es, _, m, _, h, q => by
    cases es with
    | nil => rfl
    | cons y ys =>
      obtain ⟨ls, h2, _⟩ := koks_key (y :: ys) m h
      rw [h2] at q
      have q' : ls = [] := by simpa [D.keys] using q.symm
      subst q'
      simp only [D.keys] at h2
      split at h2 <;> simp at h2
  | x :: xs, es, n, m, k, h, q => by
    cases es with
    | nil =>
      obtain ⟨ls, h2, _⟩ := koks_key (x :: xs) n k
      rw [h2] at q
      have q' : ls = [] := by simpa [D.keys] using q
      subst q'
      simp only [D.keys] at h2
      split at h2 <;> simp at h2
    | cons y ys =>
      simp only [koks, Bool.and_eq_true] at k h
      obtain ⟨a, a1, _⟩ := kok_key x n k.1
      obtain ⟨as, a2, _⟩ := koks_key xs n k.2
      obtain ⟨b, b1, _⟩ := kok_key y m h.1
      obtain ⟨bs, b2, _⟩ := koks_key ys m h.2
      simp only [D.keys, a1, a2, b1, b2, Option.some.injEq, List.cons.injEq] at q
      rw [key_inj x y n m k.1 h.1 (by rw [a1, b1, q.1]), keys_inj xs ys n m k.2 h.2 (by rw [a2, b2, q.2])]
end
def DictAt (a : Addr) (q : List DictEntry × Nat) : Heap → Prop := fun h => ∃ o, h.get? a = some o ∧ o.ExactDict ∧ o.data = .dict q.1.toArray q.2

/-- the ghosts: the lists and dicts that nobody will change; where the store's objects lie -/
structure Gh where
  F : Addr → Prop
  ρ : List Addr

/-- what stays fixed: the world's parameters, the module's own objects -/
abbrev WK := World × PySem.W.Frag
abbrev _root_.L2.Cx.wk (X : L2.Cx) : WK := (X.w, X.K)
/-- a list that nobody changes: frozen in H, or one of the module's -/
def LsA (w : WK) (g : Gh) (H : Hp) (a : Addr) (xs : List V) : Prop := (g.F a ∧ Rd H a (.lst xs)) ∨
  ∃ (o : Obj) (its : Array Value) (n : Nat), w.2.lookup a = some o ∧ o.cls = .type "list" ∧ o.dict = none ∧ o.data = .seq its n ∧ its.size ≤ sizeLine ∧ Vals xs its.toList
theorem LsA.sq {w : WK} {g : Gh} {H : Hp} {a : Addr} {xs : List V} (h : LsA w g H a xs) : SqL w.2 H a xs := h.imp (fun h => h.2) id
section
variable (mg : Str → Option Value) (w : WK) (g : Gh) (H : Hp)
mutual
inductive Rep : D → V → Prop
  | non : Rep .non .non
  | bl (b : Bool) : Rep (.bl b) (.bl b)
  | int (i : Int) : Rep (.int i) (.int i)
  | str (x : Str) : Rep (.str x) (.str x)
  | tup {a vs ds} : H a = some (.tup vs) → RepAll ds vs → Rep (.tup ds) (.ref a)
  | lst {a vs ds} : g.F a → Rd H a (.lst vs) → RepAll ds vs → Rep (.lst ds) (.ref a)
  | dct {a ks ds es ep} : g.F a → H a = some (.ext (DictAt a (es, ep))) → (a == sysModules) = false → RepEs ks ds es → (ks.map D.key).Nodup → Rep (.dct ks ds) (.ref a)
  | ref {k a} : g.ρ[k]? = some a → Rep (.ref k) (.ref a)
  | fn {x f} : mg x = some (.ref f) → Rep (.fn x) (.ref f)
  | kst {a vs ds} : LsA w g H a vs → RepAll ds vs → Rep (.kst ds) (.ref a)
inductive RepAll : List D → List V → Prop
  | nil : RepAll [] []
  | cons {d v ds vs} : Rep d v → RepAll ds vs → RepAll (d :: ds) (v :: vs)
inductive RepEs : List D → List D → List DictEntry → Prop
  | nil : RepEs [] [] []
  | cons {k kv d dv ks ds e es nk} : Rep k kv → RelV kv e.key → Rep d dv → RelV dv e.val → kok k 8 = true → D.key k = some nk → e.hash = nk.hash w.1 → RepEs ks ds es → RepEs (k :: ks) (d :: ds) (e :: es)
end
def RepM : M → Addr → Prop
  | .lst ds, a => ∃ vs, H a = some (.lst vs) ∧ RepAll mg w g H ds vs
  | .dct ks ds, a => ∃ es ep, H a = some (.ext (DictAt a (es, ep))) ∧ (a == sysModules) = false ∧ RepEs mg w g H ks ds es ∧ (ks.map D.key).Nodup
structure StoOk (S : Sto) : Prop where
  len : g.ρ.length = S.length
  nd : g.ρ.Nodup
  at_ : ∀ (k : Nat) (a : Addr) (m : M), g.ρ[k]? = some a → S[k]? = some m → RepM mg w g H m a
  nF : ∀ a ∈ g.ρ, ¬ g.F a
  tr : ∀ a, g.F a → ∃ o, H a = some o
end

/-- what stays through statements -/
structure Fz (g : Gh) (H : Hp) (g' : Gh) (H' : Hp) : Prop where
  tup : ∀ a vs, H a = some (.tup vs) → H' a = some (.tup vs)
  frz : ∀ a, g.F a → H' a = H a
  F : ∀ a, g.F a → g'.F a
  ρ : ∃ t, g'.ρ = g.ρ ++ t
/-- what stays through expressions, calls: all but the store -/
structure Stp (g : Gh) (H : Hp) (g' : Gh) (H' : Hp) : Prop extends Fz g H g' H' where
  oth : ∀ a o, H a = some o → a ∉ g.ρ → H' a = some o
  rN : ∀ a ∈ g'.ρ, a ∈ g.ρ ∨ H a = none
theorem Fz.refl (g : Gh) (H : Hp) : Fz g H g H := ⟨fun _ _ h => h, fun _ _ => rfl, fun _ h => h, ⟨[], by simp⟩⟩
theorem Fz.trans {g g1 g2 : Gh} {H H1 H2 : Hp} (a : Fz g H g1 H1) (b : Fz g1 H1 g2 H2) : Fz g H g2 H2 :=
  ⟨fun x vs h => b.tup x vs (a.tup x vs h), fun x h => (b.frz x (a.F x h)).trans (a.frz x h), fun x h => b.F x (a.F x h), by
    obtain ⟨t, e⟩ := a.ρ; obtain ⟨u, e'⟩ := b.ρ; exact ⟨t ++ u, by rw [e', e, List.append_assoc]⟩⟩
theorem Stp.refl (g : Gh) (H : Hp) : Stp g H g H := ⟨Fz.refl g H, fun _ _ h _ => h, fun _ h => .inl h⟩
theorem Stp.trans {g g1 g2 : Gh} {H H1 H2 : Hp} (a : Stp g H g1 H1) (b : Stp g1 H1 g2 H2) : Stp g H g2 H2 := by
  refine ⟨a.toFz.trans b.toFz, fun x o h hx => b.oth x o (a.oth x o h hx) fun z => ?_, fun x hx => ?_⟩
  · rcases a.rN x z with q | q
    · exact hx q
    · rw [h] at q; cases q
  · by_cases hg : x ∈ g.ρ
    · exact .inl hg
    · refine .inr ?_
      cases q : H x with
      | none => rfl
      | some o =>
        rcases b.rN x hx with z | z
        · rcases a.rN x z with y | y
          · exact absurd y hg
          · rw [q] at y; cases y
        · rw [a.oth x o q hg] at z; cases z

section
variable {mg : Str → Option Value} {w : WK} {g g' : Gh} {H H' : Hp}
theorem Fz.get {k : Nat} {a : Addr} (z : Fz g H g' H') (h : g.ρ[k]? = some a) : g'.ρ[k]? = some a := by
  obtain ⟨t, e⟩ := z.ρ
  rw [e, List.getElem?_append_left (List.getElem?_eq_some_iff.mp h).1]
  exact h
theorem Fz.rd {a : Addr} {u : HO} (z : Fz g H g' H') (hF : g.F a) (h : Rd H a u) : Rd H' a u := by
  have e := z.frz a hF
  rcases h with h | ⟨o, h⟩
  · exact .inl (e.trans h)
  · exact .inr ⟨o, e.trans h⟩
theorem LsA.mono {a : Addr} {xs : List V} (z : Fz g H g' H') (h : LsA w g H a xs) : LsA w g' H' a xs := h.imp (fun h => ⟨z.F _ h.1, z.rd h.1 h.2⟩) id
mutual
theorem Rep.mono (z : Fz g H g' H') : ∀ {d : D} {v : V}, Rep mg w g H d v → Rep mg w g' H' d v
  | _, _, .non => .non
  | _, _, .bl _ => .bl _
  | _, _, .int _ => .int _
  | _, _, .str _ => .str _
  | _, _, .tup h1 h2 => .tup (z.tup _ _ h1) (RepAll.mono z h2)
  | _, _, .lst h0 h1 h2 => .lst (z.F _ h0) (z.rd h0 h1) (RepAll.mono z h2)
  | _, _, .dct h0 h1 h2 h3 h4 => .dct (z.F _ h0) ((z.frz _ h0).trans h1) h2 (RepEs.mono z h3) h4
  | _, _, .ref h => .ref (z.get h)
  | _, _, .fn h => .fn h
  | _, _, .kst h1 h2 => .kst (LsA.mono z h1) (RepAll.mono z h2)
theorem RepAll.mono (z : Fz g H g' H') : ∀ {ds : List D} {vs : List V}, RepAll mg w g H ds vs → RepAll mg w g' H' ds vs
  | _, _, .nil => .nil
  | _, _, .cons h1 h2 => .cons (Rep.mono z h1) (RepAll.mono z h2)
theorem RepEs.mono (z : Fz g H g' H') : ∀ {ks ds : List D} {es : List DictEntry}, RepEs mg w g H ks ds es → RepEs mg w g' H' ks ds es
  | _, _, _, .nil => .nil
  | _, _, _, .cons h1 h2 h3 h4 h5 h5' h6 h7 => .cons (Rep.mono z h1) h2 (Rep.mono z h3) h4 h5 h5' h6 (RepEs.mono z h7)
end
theorem RepAll.length : ∀ {ds : List D} {vs : List V}, RepAll mg w g H ds vs → ds.length = vs.length
  | _, _, .nil => rfl
  | _, _, .cons _ r => by simp [RepAll.length r]
theorem RepAll.get : ∀ {ds : List D} {vs : List V} {i : Nat} {d : D}, RepAll mg w g H ds vs → ds[i]? = some d → ∃ v, vs[i]? = some v ∧ Rep mg w g H d v
  | _, _, _, _, .nil, e => by simp at e
  | _, _, 0, _, .cons r _, e => by simp at e; subst e; exact ⟨_, rfl, r⟩
  | _, _, i + 1, x, .cons _ t, e => by
    obtain ⟨u, h1, h2⟩ := RepAll.get (i := i) (d := x) t (by simpa using e)
    exact ⟨u, by simpa using h1, h2⟩
theorem RepAll.get' : ∀ {ds : List D} {vs : List V} {i : Nat} {v : V}, RepAll mg w g H ds vs → vs[i]? = some v → ∃ d, ds[i]? = some d ∧ Rep mg w g H d v
  | _, _, _, _, .nil, e => by simp at e
  | _, _, 0, _, .cons r _, e => by simp at e; subst e; exact ⟨_, rfl, r⟩
  | _, _, i + 1, x, .cons _ t, e => by
    obtain ⟨u, h1, h2⟩ := RepAll.get' (i := i) (v := x) t (by simpa using e)
    exact ⟨u, by simpa using h1, h2⟩
theorem RepAll.append : ∀ {ds es : List D} {vs us : List V}, RepAll mg w g H ds vs → RepAll mg w g H es us → RepAll mg w g H (ds ++ es) (vs ++ us)
  | _, _, _, _, .nil, s => s
  | _, _, _, _, .cons r t, s => .cons r (RepAll.append t s)
theorem RepAll.take : ∀ {ds : List D} {vs : List V} (n : Nat), RepAll mg w g H ds vs → RepAll mg w g H (ds.take n) (vs.take n)
  | _, _, 0, _ => .nil
  | _, _, _ + 1, .nil => .nil
  | _, _, n + 1, .cons r t => .cons r (RepAll.take n t)
theorem RepAll.drop : ∀ {ds : List D} {vs : List V} (n : Nat), RepAll mg w g H ds vs → RepAll mg w g H (ds.drop n) (vs.drop n)
  | _, _, 0, r => r
  | _, _, _ + 1, .nil => .nil
  | _, _, n + 1, .cons r t => RepAll.drop n t
theorem RepAll.set {d : D} {v : V} (r : Rep mg w g H d v) : ∀ {ds : List D} {vs : List V} (i : Nat), RepAll mg w g H ds vs → RepAll mg w g H (ds.set i d) (vs.set i v)
  | _, _, _, .nil => .nil
  | _, _, 0, .cons _ t => .cons r t
  | _, _, i + 1, .cons q t => .cons q (RepAll.set r i t)
theorem RepM.mono (z : Fz g H g' H') {m : M} {a : Addr} (e : H' a = H a) (r : RepM mg w g H m a) : RepM mg w g' H' m a := by
  cases m with
  | lst ds => obtain ⟨vs, h1, h2⟩ := r; exact ⟨vs, e.trans h1, RepAll.mono z h2⟩
  | dct ks ds => obtain ⟨es, ep, h1, h2, h3, h4⟩ := r; exact ⟨es, ep, e.trans h1, h2, RepEs.mono z h3, h4⟩
theorem RepM.there {m : M} {a : Addr} (r : RepM mg w g H m a) : ∃ o, H a = some o ∧ ∀ vs, o ≠ .tup vs := by
  cases m with
  | lst ds => obtain ⟨vs, h1, _⟩ := r; exact ⟨_, h1, fun _ q => nomatch q⟩
  | dct ks ds => obtain ⟨es, ep, h1, _⟩ := r; exact ⟨_, h1, fun _ q => nomatch q⟩
theorem StoOk.there {S : Sto} (h : StoOk mg w g H S) {a : Addr} (ha : a ∈ g.ρ) : ∃ o, H a = some o ∧ ∀ vs, o ≠ .tup vs := by
  obtain ⟨k, hk, e⟩ := List.getElem_of_mem ha
  have h1 : g.ρ[k]? = some a := by rw [List.getElem?_eq_getElem hk, e]
  have h2 : S[k]? = some (S[k]'(h.len ▸ hk)) := List.getElem?_eq_getElem _
  exact (h.at_ k a _ h1 h2).there
end

/-- only new objects -/
def New (H H' : Hp) : Prop := ∀ a o, H a = some o → H' a = some o
theorem New.refl (H : Hp) : New H H := fun _ _ h => h
theorem New.upd {H : Hp} {p : Addr} {o : HO} (h : H p = none) : New H (upd H p o) := fun a u e => by
  rw [upd_ne (ne_of_none e h)]; exact e
theorem New.trans {H H1 H2 : Hp} (a : New H H1) (b : New H1 H2) : New H H2 := fun x o h => b x o (a x o h)

/-- a body's state: B, g₀ the heap and the ghosts at the entry -/
structure Rp (mg : Str → Option Value) (w : WK) (B : Hp) (g0 g : Gh) (H : Hp) (σ : L2.St) (env : VEnv) (S : Sto) : Prop where
  sto : StoOk mg w g H S
  len : env.length = σ.length
  val : ∀ (i : Nat) (d : D), env[i]? = some (some (T.val d)) → ∃ v, σ[i]? = some (some v) ∧ Rep mg w g H d v
  own : ∀ (i : Nat) (m : M), env[i]? = some (some (T.own m)) → ∃ a, σ[i]? = some (some (V.ref a)) ∧ RepM mg w g H m a ∧ B a = none ∧ ¬ g.F a ∧ a ∉ g.ρ
  inj : ∀ (i j : Nat) (m m' : M) (a : Addr), env[i]? = some (some (T.own m)) → env[j]? = some (some (T.own m')) → σ[i]? = some (some (V.ref a)) → σ[j]? = some (some (V.ref a)) → i = j
  base : Stp g0 B g H
  fN : ∀ a, g.F a → g0.F a ∨ B a = none
  noTup : ∀ a ∈ g.ρ, ∀ vs, B a ≠ some (.tup vs)

section
variable {mg : Str → Option Value} {w : WK} {B : Hp} {g0 g g' : Gh} {H H' : Hp} {σ : L2.St} {env : VEnv} {S : Sto}
/-- an address that H lacks is new for the entry, too -/
theorem Rp.bn (R : Rp mg w B g0 g H σ env S) {a : Addr} (h : H a = none) : B a = none := by
  cases q : B a with
  | none => rfl
  | some o =>
    by_cases ha : a ∈ g0.ρ
    · obtain ⟨t, e⟩ := R.base.ρ
      obtain ⟨u, hu, _⟩ := R.sto.there (a := a) (by rw [e]; exact List.mem_append_left _ ha)
      rw [h] at hu; cases hu
    · have := R.base.oth a o q ha
      rw [h] at this; cases this
theorem Rp.nF (R : Rp mg w B g0 g H σ env S) {a : Addr} (h : H a = none) : ¬ g.F a := fun z => by
  obtain ⟨o, e⟩ := R.sto.tr a z
  rw [h] at e; cases e
theorem Rp.nρ (R : Rp mg w B g0 g H σ env S) {a : Addr} (h : H a = none) : a ∉ g.ρ := fun z => by
  obtain ⟨o, e, _⟩ := R.sto.there z
  rw [h] at e; cases e
theorem Fz.new (h : New H H') (tr : ∀ a, g.F a → ∃ o, H a = some o) : Fz g H g H' :=
  ⟨fun a vs e => h a _ e, fun a hF => by obtain ⟨o, e⟩ := tr a hF; rw [h a o e, e], fun _ h => h, ⟨[], by simp⟩⟩
theorem StoOk.new (h : New H H') (R : StoOk mg w g H S) : StoOk mg w g H' S :=
  ⟨R.len, R.nd, fun k a m h1 h2 => by
    have r := R.at_ k a m h1 h2
    obtain ⟨o, e, _⟩ := r.there
    exact r.mono (Fz.new h R.tr) (by rw [h a o e, e]), R.nF, fun a hF => by obtain ⟨o, e⟩ := R.tr a hF; exact ⟨o, h a o e⟩⟩
/-- new objects change nothing -/
theorem Rp.new (R : Rp mg w B g0 g H σ env S) (h : New H H') : Rp mg w B g0 g H' σ env S := by
  have z : Fz g H g H' := Fz.new h R.sto.tr
  refine ⟨R.sto.new h, R.len, fun i d e => ?_, fun i m e => ?_, R.inj, ⟨R.base.toFz.trans z, fun a o e ha => h a o (R.base.oth a o e ha), R.base.rN⟩, R.fN, R.noTup⟩
  · obtain ⟨v, h1, h2⟩ := R.val i d e
    exact ⟨v, h1, h2.mono z⟩
  · obtain ⟨a, h1, h2, h3⟩ := R.own i m e
    obtain ⟨o, q, _⟩ := h2.there
    exact ⟨a, h1, h2.mono z (by rw [h a o q, q]), h3⟩
/-- one object more is frozen -/
def Gh.fz (g : Gh) (a : Addr) : Gh := ⟨fun b => g.F b ∨ b = a, g.ρ⟩
theorem Fz.fz {a : Addr} : Fz g H (g.fz a) H := ⟨fun _ _ h => h, fun _ _ => rfl, fun _ h => .inl h, ⟨[], by simp [Gh.fz]⟩⟩
theorem Stp.fz {a : Addr} : Stp g H (g.fz a) H := ⟨Fz.fz, fun _ _ h _ => h, fun _ h => .inl h⟩
theorem StoOk.fz {a : Addr} (R : StoOk mg w g H S) (hs : a ∉ g.ρ) (ht : ∃ o, H a = some o) : StoOk mg w (g.fz a) H S :=
  ⟨R.len, R.nd, fun k b m h1 h2 => (R.at_ k b m h1 h2).mono Fz.fz rfl, fun b hb z => by
    rcases z with z | z
    · exact R.nF b hb z
    · subst z; exact hs hb, fun b z => by
    rcases z with z | z
    · exact R.tr b z
    · subst z; exact ht⟩
/-- a fresh one, held by no slot, is frozen -/
theorem Rp.fz {a : Addr} (R : Rp mg w B g0 g H σ env S) (hs : a ∉ g.ρ) (ht : ∃ o, H a = some o) (hB : B a = none) (no : ∀ (i : Nat) (m : M), env[i]? = some (some (T.own m)) → σ[i]? ≠ some (some (V.ref a))) : Rp mg w B g0 (g.fz a) H σ env S := by
  refine ⟨R.sto.fz hs ht, R.len, fun i d e => ?_, fun i m e => ?_, R.inj, ⟨R.base.toFz.trans Fz.fz, R.base.oth, R.base.rN⟩, fun b z => ?_, R.noTup⟩
  · obtain ⟨v, h1, h2⟩ := R.val i d e
    exact ⟨v, h1, h2.mono Fz.fz⟩
  · obtain ⟨b, h1, h2, h3, h4, h5⟩ := R.own i m e
    refine ⟨b, h1, h2.mono Fz.fz rfl, h3, fun z => ?_, h5⟩
    rcases z with z | z
    · exact h4 z
    · subst z; exact no i m e h1
  · rcases z with z | z
    · exact R.fN b z
    · subst z; exact .inr hB
theorem RepM.rep {m : M} {a : Addr} (r : RepM mg w g H m a) : Rep mg w (g.fz a) H m.d (.ref a) := by
  cases m with
  | lst ds => obtain ⟨vs, h1, h2⟩ := r; exact .lst (.inr rfl) (.inl h1) (RepAll.mono Fz.fz h2)
  | dct ks ds => obtain ⟨es, ep, h1, h2, h3, h4⟩ := r; exact .dct (.inr rfl) h1 h2 (RepEs.mono Fz.fz h3) h4
/-- a slot's object is frozen -/
theorem Rp.fzSlot {i : Nat} {m : M} {a : Addr} (R : Rp mg w B g0 g H σ env S) (e : env[i]? = some (some (T.own m))) (hs : σ[i]? = some (some (V.ref a))) : Rp mg w B g0 (g.fz a) H σ (env.set i (some (T.val m.d))) S := by
  have hi : i < env.length := (List.getElem?_eq_some_iff.mp e).1
  obtain ⟨a', h1, h2, h3, h4, h5⟩ := R.own i m e
  rw [hs] at h1; cases h1
  have ht : ∃ o, H a = some o := by obtain ⟨o, q, _⟩ := h2.there; exact ⟨o, q⟩
  refine ⟨R.sto.fz h5 ht, by rw [List.length_set]; exact R.len, fun j d q => ?_, fun j m' q => ?_, fun j k m1 m2 b q1 q2 => ?_, ⟨R.base.toFz.trans Fz.fz, R.base.oth, R.base.rN⟩, fun b z => ?_, R.noTup⟩
  · by_cases hj : i = j
    · subst hj
      rw [List.getElem?_set_self hi] at q; cases q
      exact ⟨_, hs, h2.rep⟩
    · rw [List.getElem?_set_ne hj] at q
      obtain ⟨v, q1, q2⟩ := R.val j d q
      exact ⟨v, q1, q2.mono Fz.fz⟩
  · by_cases hj : i = j
    · subst hj
      rw [List.getElem?_set_self hi] at q; cases q
    · rw [List.getElem?_set_ne hj] at q
      obtain ⟨b, q1, q2, q3, q4, q5⟩ := R.own j m' q
      refine ⟨b, q1, q2.mono Fz.fz rfl, q3, fun z => ?_, q5⟩
      rcases z with z | z
      · exact q4 z
      · subst z; exact hj (R.inj _ _ _ _ _ e q hs q1)
  · by_cases hj : i = j
    · subst hj
      rw [List.getElem?_set_self hi] at q1; cases q1
    · by_cases hk : i = k
      · subst hk
        rw [List.getElem?_set_self hi] at q2; cases q2
      · rw [List.getElem?_set_ne hj] at q1
        rw [List.getElem?_set_ne hk] at q2
        exact R.inj j k m1 m2 b q1 q2
  · rcases z with z | z
    · exact R.fN b z
    · subst z; exact .inr h3
end
section
variable {mg : Str → Option Value} {w : WK} {g g' : Gh} {H H' : Hp} {d : D} {v : V} {m : M} {a : Addr}
theorem New.stp (h : New H H') (tr : ∀ a, g.F a → ∃ o, H a = some o) : Stp g H g H' := ⟨Fz.new h tr, fun a o e _ => h a o e, fun _ h => .inl h⟩
/-- an operand: it is held, or its object stands and is not the store's -/
def Top (mg : Str → Option Value) (w : WK) (g : Gh) (H : Hp) (d : D) (v : V) : Prop := Rep mg w g H d v ∨ ∃ a m, v = .ref a ∧ d = M.d m ∧ RepM mg w g H m a ∧ a ∉ g.ρ
/-- an operand as it is used -/
def Cont (mg : Str → Option Value) (w : WK) (g : Gh) (H : Hp) (d : D) (v : V) : Prop := Rep mg w g H d v ∨ ∃ a m, v = .ref a ∧ d = M.d m ∧ RepM mg w g H m a
theorem Top.stp (z : Stp g H g' H') (r : Top mg w g H d v) : Top mg w g' H' d v := by
  rcases r with r | ⟨a, m, h1, h2, h3, h4⟩
  · exact .inl (r.mono z.toFz)
  · obtain ⟨o, e, _⟩ := h3.there
    refine .inr ⟨a, m, h1, h2, h3.mono z.toFz ((z.oth a o e h4).trans e.symm), fun q => ?_⟩
    rcases z.rN a q with q | q
    · exact h4 q
    · rw [e] at q; cases q
def dr (S : Sto) : D → D
  | .ref k => match S[k]? with
    | some m => M.d m
    | none => .ref k
  | .non => .non
  | .bl b => .bl b
  | .int i => .int i
  | .str x => .str x
  | .tup xs => .tup xs
  | .lst xs => .lst xs
  | .dct ks vs => .dct ks vs
  | .fn x => .fn x
  | .kst x => .kst x
theorem Top.cont {S : Sto} (R : StoOk mg w g H S) (r : Top mg w g H d v) : Cont mg w g H (dr S d) v := by
  rcases r with r | ⟨a, m, h1, h2, h3, h4⟩
  · cases r with
    | @ref k a h =>
      show Cont mg w g H (match S[k]? with | some m => M.d m | none => .ref k) _
      cases q : S[k]? with
      | none => exact .inl (.ref h)
      | some m => exact .inr ⟨a, m, rfl, rfl, R.at_ k a m h q⟩
    | non => exact .inl .non
    | bl => exact .inl (.bl _)
    | int => exact .inl (.int _)
    | str => exact .inl (.str _)
    | tup h1 h2 => exact .inl (.tup h1 h2)
    | lst h1 h2 h3 => exact .inl (.lst h1 h2 h3)
    | dct h1 h2 h3 h4 h5 => exact .inl (.dct h1 h2 h3 h4 h5)
    | fn h => exact .inl (.fn h)
    | kst h1 h2 => exact .inl (.kst h1 h2)
  · subst h2
    refine .inr ⟨a, m, h1, ?_, h3⟩
    cases m <;> rfl
theorem Cont.int {i : Int} (r : Cont mg w g H (.int i) v) : v = .int i := by
  rcases r with r | ⟨a, m, h1, h2, h3⟩
  · cases r; rfl
  · cases m <;> cases h2
theorem Cont.bl {b : Bool} (r : Cont mg w g H (.bl b) v) : v = .bl b := by
  rcases r with r | ⟨a, m, h1, h2, h3⟩
  · cases r; rfl
  · cases m <;> cases h2
theorem Cont.non (r : Cont mg w g H .non v) : v = .non := by
  rcases r with r | ⟨a, m, h1, h2, h3⟩
  · cases r; rfl
  · cases m <;> cases h2
theorem Cont.str {x : Str} (r : Cont mg w g H (.str x) v) : v = .str x := by
  rcases r with r | ⟨a, m, h1, h2, h3⟩
  · cases r; rfl
  · cases m <;> cases h2
theorem Cont.tup {ds : List D} (r : Cont mg w g H (.tup ds) v) : ∃ a vs, v = .ref a ∧ H a = some (.tup vs) ∧ RepAll mg w g H ds vs := by
  rcases r with r | ⟨a, m, h1, h2, h3⟩
  · cases r with
    | tup h1 h2 => exact ⟨_, _, rfl, h1, h2⟩
  · cases m <;> cases h2
theorem Cont.lst {ds : List D} (r : Cont mg w g H (.lst ds) v) : ∃ a vs, v = .ref a ∧ Rd H a (.lst vs) ∧ RepAll mg w g H ds vs := by
  rcases r with r | ⟨a, m, h1, h2, h3⟩
  · cases r with
    | lst _ h1 h2 => exact ⟨_, _, rfl, h1, h2⟩
  · cases m with
    | lst xs => cases h2; obtain ⟨vs, q1, q2⟩ := h3; exact ⟨a, vs, h1, .inl q1, q2⟩
    | dct _ _ => cases h2
theorem Cont.kst {ds : List D} (r : Cont mg w g H (.kst ds) v) : ∃ a vs, v = .ref a ∧ LsA w g H a vs ∧ RepAll mg w g H ds vs := by
  rcases r with r | ⟨a, m, h1, h2, h3⟩
  · cases r with
    | kst h1 h2 => exact ⟨_, _, rfl, h1, h2⟩
  · cases m <;> cases h2
theorem Cont.dct {ks ds : List D} (r : Cont mg w g H (.dct ks ds) v) : ∃ a es ep, v = .ref a ∧ H a = some (.ext (DictAt a (es, ep))) ∧ (a == sysModules) = false ∧ RepEs mg w g H ks ds es ∧ (ks.map D.key).Nodup := by
  rcases r with r | ⟨a, m, h1, h2, h3⟩
  · cases r with
    | dct _ h1 h2 h3 h4 => exact ⟨_, _, _, rfl, h1, h2, h3, h4⟩
  · cases m with
    | lst xs => cases h2
    | dct _ _ => cases h2; obtain ⟨es, ep, q1, q2, q3, q4⟩ := h3; exact ⟨a, es, ep, h1, q1, q2, q3, q4⟩
/-- what an operation hands back -/
def RR (mg : Str → Option Value) (w : WK) (g : Gh) (H H' : Hp) : T → V → Prop
  | .val d, z => Rep mg w g H' d z
  | .own m, z => ∃ a, z = .ref a ∧ RepM mg w g H' m a ∧ H a = none
/-- .. and what an expression does -/
def RT (mg : Str → Option Value) (w : WK) (B : Hp) (g : Gh) (H : Hp) (σ : L2.St) (env : VEnv) : T → V → Prop
  | .val d, z => Rep mg w g H d z
  | .own m, z => ∃ a, z = .ref a ∧ RepM mg w g H m a ∧ B a = none ∧ ¬ g.F a ∧ a ∉ g.ρ ∧ ∀ (i : Nat) (m' : M), env[i]? = some (some (T.own m')) → σ[i]? ≠ some (some (V.ref a))
variable {B : Hp} {g0 : Gh} {σ : L2.St} {env : VEnv} {S : Sto} {t : T}
theorem Rp.rt (R : Rp mg w B g0 g H σ env S) (h : New H H') (r : RR mg w g H H' t v) : RT mg w B g H' σ env t v := by
  cases t with
  | val d => exact r
  | own m =>
    obtain ⟨a, h1, h2, h3⟩ := r
    refine ⟨a, h1, h2, R.bn h3, R.nF h3, R.nρ h3, fun i m' e q => ?_⟩
    obtain ⟨b, q1, q2, _⟩ := R.own i m' e
    rw [q] at q1; cases q1
    obtain ⟨o, q3, _⟩ := q2.there
    rw [h3] at q3; cases q3
theorem RT.top (r : RT mg w B g H σ env t v) : Top mg w g H t.d v := by
  cases t with
  | val d => exact .inl r
  | own m => obtain ⟨a, h1, h2, _, _, h5, _⟩ := r; exact .inr ⟨a, m, h1, rfl, h2, h5⟩
/-- held from now on -/
theorem RT.hold (R : Rp mg w B g0 g H σ env S) (r : RT mg w B g H σ env t v) : ∃ g', Stp g H g' H ∧ Rp mg w B g0 g' H σ env S ∧ Rep mg w g' H t.d v := by
  cases t with
  | val d => exact ⟨g, Stp.refl g H, R, r⟩
  | own m =>
    obtain ⟨a, h1, h2, h3, h4, h5, h6⟩ := r
    subst h1
    have ht : ∃ o, H a = some o := by obtain ⟨o, q, _⟩ := h2.there; exact ⟨o, q⟩
    exact ⟨g.fz a, Stp.fz, R.fz h5 ht h3 h6, h2.rep⟩
end
end VC

set_option Elab.async false
set_option linter.all false
set_option maxRecDepth 100000
set_option maxHeartbeats 4000000
/-! VB: the judgements by data, and their rules. -/
namespace VC
open PySem PySem.Spec PyProof.Rows L2

abbrev WX (α : Type) := VEnv → Sto → (α → VEnv → Sto → Prop) → Prop
abbrev WE := WX T
abbrev WO := WX D
abbrev WA := WX (List D)
abbrev WT := WX Bool
def Mo {α : Type} (W : WX α) : Prop := ∀ env S (Q Q' : α → VEnv → Sto → Prop), (∀ t env' S', Q t env' S' → Q' t env' S') → W env S Q → W env S Q'
abbrev WEnd := VEnv → Sto → Prop
structure WEnds where
  nx : WEnd
  rt : T → Sto → Prop
  bk : WEnd := fun _ _ => False
  ct : WEnd := fun _ _ => False
abbrev WS := WEnds → VEnv → Sto → Prop

section
variable (X : Cx) (B : Hp) (g0 : Gh)
def VQ (g : Gh) (H : Hp) (σ : L2.St) (Q : T → VEnv → Sto → Prop) : VK := fun v H' => ∃ g' t env' S', Stp g H g' H' ∧ Rp X.mg X.wk B g0 g' H' σ env' S' ∧ RT X.mg X.wk B g' H' σ env' t v ∧ Q t env' S'
def OQ (g : Gh) (H : Hp) (σ : L2.St) (Q : D → VEnv → Sto → Prop) : VK := fun v H' => ∃ g' d env' S', Stp g H g' H' ∧ Rp X.mg X.wk B g0 g' H' σ env' S' ∧ Top X.mg X.wk g' H' d v ∧ Q d env' S'
def BQ (g : Gh) (H : Hp) (σ : L2.St) (Q : Bool → VEnv → Sto → Prop) : Bool → Hp → Prop := fun b H' => ∃ g' env' S', Stp g H g' H' ∧ Rp X.mg X.wk B g0 g' H' σ env' S' ∧ Q b env' S'
/-- arguments that are held -/
def AQ (g : Gh) (H : Hp) (σ : L2.St) (Q : List D → VEnv → Sto → Prop) : List V → Hp → Prop := fun vs H' => ∃ g' ds env' S', Stp g H g' H' ∧ Rp X.mg X.wk B g0 g' H' σ env' S' ∧ RepAll X.mg X.wk g' H' ds vs ∧ Q ds env' S'
/-- arguments that are looked at -/
inductive TopAll (mg : Str → Option Value) (w : WK) (g : Gh) (H : Hp) : List D → List V → Prop
  | nil : TopAll mg w g H [] []
  | cons {d v ds vs} : Top mg w g H d v → TopAll mg w g H ds vs → TopAll mg w g H (d :: ds) (v :: vs)
def UQ (g : Gh) (H : Hp) (σ : L2.St) (Q : List D → VEnv → Sto → Prop) : List V → Hp → Prop := fun vs H' => ∃ g' ds env' S', Stp g H g' H' ∧ Rp X.mg X.wk B g0 g' H' σ env' S' ∧ TopAll X.mg X.wk g' H' ds vs ∧ Q ds env' S'
/-- behind a statement -/
def NQ (g : Gh) (H : Hp) (Q : WEnd) : L2.St → Hp → Prop := fun σ' H' => ∃ g' env' S', Fz g H g' H' ∧ Rp X.mg X.wk B g0 g' H' σ' env' S' ∧ Q env' S'
def KQ (g : Gh) (H : Hp) (Q : T → Sto → Prop) : VK := fun v H' => ∃ g' t σ' env' S', Rp X.mg X.wk B g0 g' H' σ' env' S' ∧ RT X.mg X.wk B g' H' σ' env' t v ∧ Q t S'
def tE (W : WE) : TE := fun σ H Q => ∃ env S g Q0, Rp X.mg X.wk B g0 g H σ env S ∧ W env S Q0 ∧ ∀ v H', VQ X B g0 g H σ Q0 v H' → Q v H'
def tO (W : WO) : TE := fun σ H Q => ∃ env S g Q0, Rp X.mg X.wk B g0 g H σ env S ∧ W env S Q0 ∧ ∀ v H', OQ X B g0 g H σ Q0 v H' → Q v H'
def tT (W : WT) : TT := fun σ H Q => ∃ env S g Q0, Rp X.mg X.wk B g0 g H σ env S ∧ W env S Q0 ∧ ∀ b H', BQ X B g0 g H σ Q0 b H' → Q b H'
def tA (W : WA) : TA := fun σ H Q => ∃ env S g Q0, Rp X.mg X.wk B g0 g H σ env S ∧ W env S Q0 ∧ ∀ vs H', AQ X B g0 g H σ Q0 vs H' → Q vs H'
def tU (W : WA) : TA := fun σ H Q => ∃ env S g Q0, Rp X.mg X.wk B g0 g H σ env S ∧ W env S Q0 ∧ ∀ vs H', UQ X B g0 g H σ Q0 vs H' → Q vs H'
structure SQ (g : Gh) (H : Hp) (De : WEnds) (D' : Ends) : Prop where
  nx : ∀ σ' H', NQ X B g0 g H De.nx σ' H' → D'.nx σ' H'
  rt : ∀ v H', KQ X B g0 g H De.rt v H' → D'.rt v H'
  bk : ∀ σ' H', NQ X B g0 g H De.bk σ' H' → D'.bk σ' H'
  ct : ∀ σ' H', NQ X B g0 g H De.ct σ' H' → D'.ct σ' H'
def tS (W : WS) : TS := fun D' σ H => ∃ env S g De, Rp X.mg X.wk B g0 g H σ env S ∧ W De env S ∧ SQ X B g0 g H De D'

structure VE (e : Expr) (W : WE) : Prop where
  mono : Mo W
  pe : PE X e (tE X B g0 W)
structure VO (e : Expr) (W : WO) : Prop where
  mono : Mo W
  pe : PE X e (tO X B g0 W)
structure VT (e : Expr) (W : WT) : Prop where
  mono : Mo W
  pt : PT X e (tT X B g0 W)
structure VW (e : Expr) (W : WT) : Prop where
  mono : Mo W
  pw : PW X e (tT X B g0 W)
structure VA (es : List Expr) (W : WA) : Prop where
  mono : Mo W
  pa : PA X es (tA X B g0 W)
structure VU (es : List Expr) (W : WA) : Prop where
  mono : Mo W
  pa : PA X es (tU X B g0 W)
structure WEnds.Le (D D' : WEnds) : Prop where
  nx : ∀ e s, D.nx e s → D'.nx e s
  rt : ∀ t s, D.rt t s → D'.rt t s
  bk : ∀ e s, D.bk e s → D'.bk e s
  ct : ∀ e s, D.ct e s → D'.ct e s
def MoS (W : WS) : Prop := ∀ env S D D', WEnds.Le D D' → W D env S → W D' env S
structure VS (st : Stmt) (W : WS) : Prop where
  mono : MoS W
  ps : PS X st (tS X B g0 W)
structure VSs (st : List Stmt) (W : WS) : Prop where
  mono : MoS W
  ps : PSs X st (tS X B g0 W)
end

theorem PE.imp {X : Cx} {e : Expr} {t t' : TE} (h : PE X e t) (i : ∀ σ H Q, t' σ H Q → t σ H Q) : PE X e t' := ⟨fun pins s σ H Q I q => h.run pins s σ H Q I (i _ _ _ q)⟩
theorem EP.mono {X : Cx} {pins : List (Addr × Obj)} {σ : L2.St} {Q Q' : VK} {u : Value} {s : Shared} (h : EP X pins σ Q u s) (i : ∀ v H, Q v H → Q' v H) : EP X pins σ Q' u s := let ⟨v, H, a, b, c⟩ := h; ⟨v, H, a, b, i _ _ c⟩

section
variable {X : Cx} {B : Hp} {g0 : Gh} {e a b : Expr} {es : List Expr} {pos : Pos}
theorem VE.of {W : WE} {t : TE} (mono : Mo W) (h : PE X e t)
    (imp : ∀ σ H env S g Q, Rp X.mg X.wk B g0 g H σ env S → W env S Q → t σ H (VQ X B g0 g H σ Q)) : VE X B g0 e W :=
  ⟨mono, ⟨fun pins s σ H Q I ⟨env, S, g, Q0, R, hW, i⟩ => thn (h.run pins s σ H _ I (imp σ H env S g Q0 R hW)) fun u s' q => EP.mono q i⟩⟩
theorem VO.of {W : WO} {t : TE} (mono : Mo W) (h : PE X e t)
    (imp : ∀ σ H env S g Q, Rp X.mg X.wk B g0 g H σ env S → W env S Q → t σ H (OQ X B g0 g H σ Q)) : VO X B g0 e W :=
  ⟨mono, ⟨fun pins s σ H Q I ⟨env, S, g, Q0, R, hW, i⟩ => thn (h.run pins s σ H _ I (imp σ H env S g Q0 R hW)) fun u s' q => EP.mono q i⟩⟩
theorem VT.of {W : WT} {t : TT} (mono : Mo W) (h : PT X e t)
    (imp : ∀ σ H env S g Q, Rp X.mg X.wk B g0 g H σ env S → W env S Q → t σ H (BQ X B g0 g H σ Q)) : VT X B g0 e W :=
  ⟨mono, ⟨fun pins s σ H Q I ⟨env, S, g, Q0, R, hW, i⟩ => thn (h.run pins s σ H _ I (imp σ H env S g Q0 R hW)) fun u s' ⟨H', I', q⟩ => ⟨H', I', i _ _ q⟩⟩⟩
theorem VW.of {W : WT} {t : TT} (mono : Mo W) (h : PW X e t)
    (imp : ∀ σ H env S g Q, Rp X.mg X.wk B g0 g H σ env S → W env S Q → t σ H (BQ X B g0 g H σ Q)) : VW X B g0 e W :=
  ⟨mono, ⟨fun wh pins s σ H Q I ⟨env, S, g, Q0, R, hW, i⟩ => thn (h.run wh pins s σ H _ I (imp σ H env S g Q0 R hW)) fun u s' ⟨H', I', q⟩ => ⟨H', I', i _ _ q⟩⟩⟩
theorem VW.vt {W : WT} (h : VW X B g0 e W) : VT X B g0 e W := ⟨h.mono, h.pw.pt⟩
theorem VA.of {W : WA} {t : TA} (mono : Mo W) (h : PA X es t)
    (imp : ∀ σ H env S g Q, Rp X.mg X.wk B g0 g H σ env S → W env S Q → t σ H (AQ X B g0 g H σ Q)) : VA X B g0 es W :=
  ⟨mono, ⟨fun pos pins s σ H Q I ⟨env, S, g, Q0, R, hW, i⟩ => thn (h.run pos pins s σ H _ I (imp σ H env S g Q0 R hW)) fun u s' ⟨vs, H', I', r, q⟩ => ⟨vs, H', I', r, i _ _ q⟩⟩⟩
theorem VU.of {W : WA} {t : TA} (mono : Mo W) (h : PA X es t)
    (imp : ∀ σ H env S g Q, Rp X.mg X.wk B g0 g H σ env S → W env S Q → t σ H (UQ X B g0 g H σ Q)) : VU X B g0 es W :=
  ⟨mono, ⟨fun pos pins s σ H Q I ⟨env, S, g, Q0, R, hW, i⟩ => thn (h.run pos pins s σ H _ I (imp σ H env S g Q0 R hW)) fun u s' ⟨vs, H', I', r, q⟩ => ⟨vs, H', I', r, i _ _ q⟩⟩⟩
theorem SP.mono {pins : List (Addr × Obj)} {D D' : Ends} {f : Flow} {s : Shared} (h : SP X pins D f s) (nx : ∀ σ H, D.nx σ H → D'.nx σ H) (rt : ∀ v H, D.rt v H → D'.rt v H) (bk : ∀ σ H, D.bk σ H → D'.bk σ H) (ct : ∀ σ H, D.ct σ H → D'.ct σ H) : SP X pins D' f s := by
  cases f with
  | next => obtain ⟨σ', H', I', q⟩ := h; exact ⟨σ', H', I', nx _ _ q⟩
  | brk => obtain ⟨σ', H', I', q⟩ := h; exact ⟨σ', H', I', bk _ _ q⟩
  | cont => obtain ⟨σ', H', I', q⟩ := h; exact ⟨σ', H', I', ct _ _ q⟩
  | ret u => obtain ⟨v, σ', H', I', r, q⟩ := h; exact ⟨v, σ', H', I', r, rt _ _ q⟩
/-- the exact ends of a body's statement -/
def ends (X : Cx) (B : Hp) (g0 : Gh) (g : Gh) (H : Hp) (De : WEnds) : Ends := { nx := NQ X B g0 g H De.nx, rt := KQ X B g0 g H De.rt, bk := NQ X B g0 g H De.bk, ct := NQ X B g0 g H De.ct }
theorem ends_sq {g : Gh} {H : Hp} {De : WEnds} : SQ X B g0 g H De (ends X B g0 g H De) := ⟨fun _ _ h => h, fun _ _ h => h, fun _ _ h => h, fun _ _ h => h⟩
theorem VS.of {st : Stmt} {W : WS} {t : TS} (mono : MoS W) (h : PS X st t)
    (imp : ∀ σ H env S g De, Rp X.mg X.wk B g0 g H σ env S → W De env S → t (ends X B g0 g H De) σ H) : VS X B g0 st W :=
  ⟨mono, ⟨fun pins s σ H D' I ⟨env, S, g, De, R, hW, i⟩ => thn (h.run pins s σ H _ I (imp σ H env S g De R hW)) fun u s' q => SP.mono q i.nx i.rt i.bk i.ct⟩⟩
theorem VSs.of {st : List Stmt} {W : WS} {t : TS} (mono : MoS W) (h : PSs X st t)
    (imp : ∀ σ H env S g De, Rp X.mg X.wk B g0 g H σ env S → W De env S → t (ends X B g0 g H De) σ H) : VSs X B g0 st W :=
  ⟨mono, ⟨fun pins s σ H D' I ⟨env, S, g, De, R, hW, i⟩ => thn (h.run pins s σ H _ I (imp σ H env S g De R hW)) fun u s' q => SP.mono q i.nx i.rt i.bk i.ct⟩⟩

/-! ### names, constants -/
def slot : VEnv → Nat → Option T
  | [], _ => none
  | x :: _, 0 => x
  | _ :: r, i + 1 => slot r i
theorem slot_get : ∀ {env : VEnv} {i : Nat} {t : T}, slot env i = some t → env[i]? = some (some t)
  | x :: _, 0, t, h => by simpa [slot] using h
  | _ :: r, i + 1, t, h => by
    have := slot_get (env := r) (i := i) (t := t) h
    simpa using this
def wC (d : D) : WE := fun env S Q => Q (.val d) env S
theorem ve_c {d : D} {v : V} (h : PE X e (tC v)) (r : ∀ w g H, Rep X.mg w g H d v) : VE X B g0 e (wC d) :=
  VE.of (fun _ _ _ _ i q => i _ _ _ q) h fun σ H env S g Q R q => ⟨g, .val d, env, S, Stp.refl g H, R, r _ _ _, q⟩
theorem ve_int {i : Int} {j : Nat} : VE X B g0 (.Constant (.int i) j pos) (wC (.int i)) := ve_c pe_int fun _ _ _ => .int i
theorem ve_bl {i : Bool} {j : Nat} : VE X B g0 (.Constant (.bool i) j pos) (wC (.bl i)) := ve_c pe_bl fun _ _ _ => .bl i
theorem ve_non {j : Nat} : VE X B g0 (.Constant .none j pos) (wC .non) := ve_c pe_non fun _ _ _ => .non
theorem ve_str {x : Str} {j : Nat} : VE X B g0 (.Constant (.str x) j pos) (wC (.str x)) := ve_c pe_str fun _ _ _ => .str x
/-- a name as a value: a list or dict is held from then on -/
def wV (i : Nat) : WE := fun env S Q => match slot env i with
  | some (.val d) => Q (.val d) env S
  | some (.own m) => Q (.val m.d) (env.set i (some (.val m.d))) S
  | none => False
/-- a name that is not asked any more -/
def wMv (i : Nat) : WE := fun env S Q => match slot env i with
  | some t => Q t (env.set i none) S
  | none => False
/-- a name, looked at -/
def oV (i : Nat) : WO := fun env S Q => match slot env i with
  | some t => Q t.d env S
  | none => False
theorem Rp.top {g : Gh} {H : Hp} {σ : L2.St} {env : VEnv} {S : Sto} {i : Nat} {t : T} (R : Rp X.mg X.wk B g0 g H σ env S) (h : slot env i = some t) : ∃ v, σ[i]? = some (some v) ∧ Top X.mg X.wk g H t.d v := by
  have h := slot_get h
  cases t with
  | val d => obtain ⟨v, h1, h2⟩ := R.val i d h; exact ⟨v, h1, .inl h2⟩
  | own m => obtain ⟨a, h1, h2, h3, h4, h5⟩ := R.own i m h; exact ⟨_, h1, .inr ⟨a, m, rfl, rfl, h2, h5⟩⟩
theorem vo_var {i : Nat} (h : PE X e (tVar i)) : VO X B g0 e (oV i) := by
  refine VO.of (fun env S Q Q' i' q => ?_) h fun σ H env S g Q R q => ?_
  · unfold oV at q ⊢
    split at q
    · exact i' _ _ _ q
    · exact q
  · unfold oV at q
    split at q
    · rename_i t hs
      obtain ⟨v, h1, h2⟩ := R.top hs
      exact ⟨v, h1, g, t.d, env, S, Stp.refl g H, R, h2, q⟩
    · exact q.elim
theorem ve_var {i : Nat} (h : PE X e (tVar i)) : VE X B g0 e (wV i) := by
  refine VE.of (fun env S Q Q' i' q => ?_) h fun σ H env S g Q R q => ?_
  · unfold wV at q ⊢
    split at q
    · exact i' _ _ _ q
    · exact i' _ _ _ q
    · exact q
  · unfold wV at q
    split at q
    · rename_i d hs
      obtain ⟨v, h1, h2⟩ := R.val i d (slot_get hs)
      exact ⟨v, h1, g, .val d, env, S, Stp.refl g H, R, h2, q⟩
    · rename_i m hs
      obtain ⟨a, h1, h2, _⟩ := R.own i m (slot_get hs)
      exact ⟨_, h1, g.fz a, .val m.d, _, S, Stp.fz, R.fzSlot (slot_get hs) h1, h2.rep, q⟩
    · exact q.elim
/-- a slot forgotten -/
theorem Rp.drop {g : Gh} {H : Hp} {σ : L2.St} {env : VEnv} {S : Sto} {mg : Str → Option Value} {w : WK} (R : Rp mg w B g0 g H σ env S) (i : Nat) : Rp mg w B g0 g H σ (env.set i none) S := by
  have key : ∀ (j : Nat) (t : T), (env.set i none)[j]? = some (some t) → j ≠ i ∧ env[j]? = some (some t) := fun j t q => by
    by_cases hj : i = j
    · subst hj
      by_cases hl : i < env.length
      · rw [List.getElem?_set_self hl] at q; cases q
      · rw [List.getElem?_eq_none (by simpa using hl)] at q; cases q
    · rw [List.getElem?_set_ne hj] at q; exact ⟨fun z => hj z.symm, q⟩
  exact ⟨R.sto, by rw [List.length_set]; exact R.len, fun j d q => R.val j d (key j _ q).2, fun j m q => R.own j m (key j _ q).2, fun j k m m' a q1 q2 => R.inj j k m m' a (key j _ q1).2 (key k _ q2).2, R.base, R.fN, R.noTup⟩
theorem ve_mv {i : Nat} (h : PE X e (tVar i)) : VE X B g0 e (wMv i) := by
  refine VE.of (fun env S Q Q' i' q => ?_) h fun σ H env S g Q R q => ?_
  · unfold wMv at q ⊢
    split at q
    · exact i' _ _ _ q
    · exact q
  · unfold wMv at q
    split at q
    · rename_i t hs
      cases t with
      | val d =>
        obtain ⟨v, h1, h2⟩ := R.val i d (slot_get hs)
        exact ⟨v, h1, g, .val d, _, S, Stp.refl g H, R.drop i, h2, q⟩
      | own m =>
        obtain ⟨a, h1, h2, h3, h4, h5⟩ := R.own i m (slot_get hs)
        refine ⟨_, h1, g, .own m, _, S, Stp.refl g H, R.drop i, ⟨a, rfl, h2, h3, h4, h5, fun j m' q1 q2 => ?_⟩, q⟩
        by_cases hj : i = j
        · subst hj
          rw [List.getElem?_set_self (List.getElem?_eq_some_iff.mp (slot_get hs)).1] at q1; cases q1
        · rw [List.getElem?_set_ne hj] at q1
          exact hj (R.inj _ _ _ _ _ (slot_get hs) q1 h1 q2)
    · exact q.elim
/-- any expression as an operand -/
def oE (W : WE) : WO := fun env S Q => W env S fun t env' S' => Q t.d env' S'
theorem VE.vo {W : WE} (h : VE X B g0 e W) : VO X B g0 e (oE W) :=
  VO.of (fun _ _ _ _ i q => h.mono _ _ _ _ (fun t env' S' => i t.d env' S') q) h.pe fun σ H env S g Q R q => ⟨env, S, g, _, R, q, fun v H' ⟨g', t, env', S', st, R', rt, q'⟩ => ⟨g', t.d, env', S', st, R', rt.top, q'⟩⟩

/-- a branch -/
inductive Ite (c : Bool) (a b : Prop) : Prop
  | mk : (c = true → a) → (c = false → b) → Ite c a b
theorem Ite.t {a b : Prop} (h : Ite true a b) : a := by cases h with | mk h _ => exact h rfl
theorem Ite.f {a b : Prop} (h : Ite false a b) : b := by cases h with | mk _ h => exact h rfl
theorem Ite.mt {c : Bool} {a b : Prop} (e : c = true) (h : a) : Ite c a b := .mk (fun _ => h) (fun q => by rw [e] at q; cases q)
theorem Ite.mf {c : Bool} {a b : Prop} (e : c = false) (h : b) : Ite c a b := .mk (fun q => by rw [e] at q; cases q) (fun _ => h)
theorem Ite.mono {c : Bool} {a b a' b' : Prop} (i : a → a') (j : b → b') (h : Ite c a b) : Ite c a' b' := by
  cases c with
  | true => exact Ite.mt rfl (i h.t)
  | false => exact Ite.mf rfl (j h.f)
theorem Ite.intro {c : Bool} {a b : Prop} (i : c = true → a) (j : c = false → b) : Ite c a b := .mk i j
/-! ### two operands -/
abbrev O1 := D → (T → Prop) → Prop
abbrev O2 := D → D → (T → Prop) → Prop
abbrev ON := List D → (T → Prop) → Prop
def Mo1 (op : O1) : Prop := ∀ d (K K' : T → Prop), (∀ t, K t → K' t) → op d K → op d K'
def Mo2 (op : O2) : Prop := ∀ d e (K K' : T → Prop), (∀ t, K t → K' t) → op d e K → op d e K'
def MoN (op : ON) : Prop := ∀ ds (K K' : T → Prop), (∀ t, K t → K' t) → op ds K → op ds K'
def RK (X : Cx) (g : Gh) (H : Hp) (K : T → Prop) : VK := fun z H' => ∃ t, New H H' ∧ RR X.mg X.wk g H H' t z ∧ K t
/-- a two-place operation, by a reading of the layer -/
structure Op2 (X : Cx) (f : Value → Value → Sem Value) (op : O2) : Prop where
  mono : Mo2 op
  run : ∀ (pins : List (Addr × Obj)) (s : Shared) (σ : L2.St) (H : Hp) (g : Gh) (d e : D) (x y : V) (v u : Value) (K : T → Prop), Inv X pins σ H s → (∀ a, g.F a → ∃ o, H a = some o) → Cont X.mg X.wk g H d x → Cont X.mg X.wk g H e y → RelV x v → RelV y u → op d e K →
    wpAny (model X.prog X.w) X.A (f v u) (EP X pins σ (RK X g H K)) X.xe s
theorem Op2.of {f : Value → Value → Sem Value} {op : O2} {r : R2} (mono : Mo2 op) (ho : OpR X f r)
    (imp : ∀ (H : Hp) (g : Gh) (d e : D) (x y : V) (K : T → Prop), (∀ a, g.F a → ∃ o, H a = some o) → Cont X.mg X.wk g H d x → Cont X.mg X.wk g H e y → op d e K → r x y H (RK X g H K)) : Op2 X f op :=
  ⟨mono, fun pins s σ H g d e x y v u K I tr c1 c2 r1 r2 h => ho pins s σ H x y v u _ I r1 r2 (imp H g d e x y K tr c1 c2 h)⟩
/-- the operation's reading -/
def rO (X : Cx) (op : O2) : R2 := fun x y H Q => ∃ g d e K, (∀ a, g.F a → ∃ o, H a = some o) ∧ Cont X.mg X.wk g H d x ∧ Cont X.mg X.wk g H e y ∧ op d e K ∧ ∀ z H', RK X g H K z H' → Q z H'
theorem Op2.opr {f : Value → Value → Sem Value} {op : O2} (h : Op2 X f op) : OpR X f (rO X op) := fun pins s σ H x y v u Q I r1 r2 ⟨g, d, e, K, tr, c1, c2, q, i⟩ =>
  thn (h.run pins s σ H g d e x y v u K I tr c1 c2 r1 r2 q) fun _ _ z => EP.mono z i
def wB (op : O2) (Wa Wb : WO) : WE := fun env S Q => Wa env S fun d env1 S1 => Wb env1 S1 fun e env2 S2 => op (dr S2 d) (dr S2 e) fun t => Q t env2 S2
theorem bin_imp {op : O2} {Wa Wb : WO} {σ : L2.St} {H : Hp} {env : VEnv} {S : Sto} {g : Gh} {Q : T → VEnv → Sto → Prop} (R : Rp X.mg X.wk B g0 g H σ env S) (q : wB op Wa Wb env S Q) :
    tOp (rO X op) (tO X B g0 Wa) (tO X B g0 Wb) σ H (VQ X B g0 g H σ Q) := by
  refine ⟨env, S, g, _, R, q, fun x H1 ⟨g1, d, env1, S1, st1, R1, t1, q1⟩ => ⟨env1, S1, g1, _, R1, q1, fun y H2 ⟨g2, e, env2, S2, st2, R2, t2, q2⟩ => ?_⟩⟩
  refine ⟨g2, _, _, _, R2.sto.tr, (t1.stp st2).cont R2.sto, t2.cont R2.sto, q2, fun z H3 ⟨t, hn, rr, k⟩ => ?_⟩
  exact ⟨g2, t, env2, S2, (st1.trans st2).trans (hn.stp R2.sto.tr), R2.new hn, R2.rt hn rr, k⟩
theorem wB_mono {op : O2} {Wa Wb : WO} (mo : Mo2 op) (ma : Mo Wa) (mb : Mo Wb) : Mo (wB op Wa Wb) := fun _ _ _ _ i q =>
  ma _ _ _ _ (fun _ _ _ q1 => mb _ _ _ _ (fun _ _ _ q2 => mo _ _ _ _ (fun _ q3 => i _ _ _ q3) q2) q1) q
theorem ve_bin {op : Operator} {o : O2} {Wa Wb : WO} (ho : Op2 X (binaryOp op) o) (ha : VO X B g0 a Wa) (hb : VO X B g0 b Wb) : VE X B g0 (.BinOp a op b pos) (wB o Wa Wb) :=
  VE.of (wB_mono ho.mono ha.mono hb.mono) (pe_op ho.opr ha.pe hb.pe) fun σ H env S g Q R q => bin_imp R q
theorem ve_cmp {op : CmpOp} {o : O2} {Wa Wb : WO} (ho : Op2 X (compareOp op) o) (ha : VO X B g0 a Wa) (hb : VO X B g0 b Wb) (hm : behindInMarks op b = false := by first | exact nomark _ | rfl) : VE X B g0 (.Compare a [op] [b] pos) (wB o Wa Wb) :=
  VE.of (wB_mono ho.mono ha.mono hb.mono) (pe_cmpR ho.opr ha.pe hb.pe hm) fun σ H env S g Q R q => bin_imp R q
/-- by a rule of subscripts -/
structure Ix2 (X : Cx) (op : O2) : Prop where
  mono : Mo2 op
  ix : IxR X (rO X op)
theorem ve_ix {o : O2} {Wa Wb : WO} (ho : Ix2 X o) (ha : VO X B g0 a Wa) (hb : VO X B g0 b Wb) (hs : PlainIx b := by intro _ _; rfl) : VE X B g0 (.Subscript a b pos) (wB o Wa Wb) :=
  VE.of (wB_mono ho.mono ha.mono hb.mono) (pe_ix ho.ix ha.pe hb.pe hs) fun σ H env S g Q R q => bin_imp R q
end
end VC

set_option Elab.async false
set_option linter.all false
set_option maxRecDepth 100000
set_option maxHeartbeats 4000000
/-! VC: operations by data. -/
namespace VC
open PySem PySem.Spec PyProof.Rows L2

section
variable {X : Cx} {g : Gh} {H : Hp} {K : T → Prop}
theorem rk_int {i : Int} (q : K (.val (.int i))) : RK X g H K (.int i) H := ⟨.val (.int i), New.refl H, Rep.int i, q⟩
theorem rk_bl {i : Bool} (q : K (.val (.bl i))) : RK X g H K (.bl i) H := ⟨.val (.bl i), New.refl H, Rep.bl i, q⟩
theorem rk_str {i : Str} (q : K (.val (.str i))) : RK X g H K (.str i) H := ⟨.val (.str i), New.refl H, Rep.str i, q⟩
theorem rk_tup {ds : List D} {vs : List V} {p : Addr} (tr : ∀ a, g.F a → ∃ o, H a = some o) (r : RepAll X.mg X.wk g H ds vs) (hp : H p = none) (q : K (.val (.tup ds))) : RK X g H K (.ref p) (upd H p (.tup vs)) :=
  ⟨.val (.tup ds), New.upd hp, Rep.tup upd_same (r.mono (Fz.new (New.upd hp) tr)), q⟩
theorem rk_lst {ds : List D} {vs : List V} {p : Addr} (tr : ∀ a, g.F a → ∃ o, H a = some o) (r : RepAll X.mg X.wk g H ds vs) (hp : H p = none) (q : K (.own (.lst ds))) : RK X g H K (.ref p) (upd H p (.lst vs)) :=
  ⟨.own (.lst ds), New.upd hp, ⟨p, rfl, ⟨vs, upd_same, r.mono (Fz.new (New.upd hp) tr)⟩, hp⟩, q⟩
theorem rk_rep {d : D} {v : V} (r : Rep X.mg X.wk g H d v) (q : K (.val d)) : RK X g H K v H := ⟨.val d, New.refl H, r, q⟩
theorem SqL.rd {K : PySem.W.Frag} {a : Addr} {xs : List V} (h : Rd H a (.lst xs)) : SqL K H a xs := .inl h
theorem SqT.at {K : PySem.W.Frag} {a : Addr} {xs : List V} (h : H a = some (.tup xs)) : SqT K H a xs := .inl (.inl h)
end

theorem sz1000 {n : Nat} (h : n ≤ 1000000) : n ≤ sizeLine := Nat.le_trans h (by decide)

/-! ### + -/
def opAdd : O2
  | .int i, .int j, K => K (.val (.int (i + j)))
  | .tup xs, .tup ys, K => xs.length + ys.length ≤ sizeLine ∧ K (.val (.tup (xs ++ ys)))
  | .lst xs, .lst ys, K => xs.length + ys.length ≤ sizeLine ∧ K (.own (.lst (xs ++ ys)))
  | .str x, .str y, K => x.length + y.length ≤ sizeLine ∧ K (.val (.str (x ++ y)))
  | .kst xs, .lst ys, K => xs.length + ys.length ≤ sizeLine ∧ K (.own (.lst (xs ++ ys)))
  | .bl a, .int j, K => K (.val (.int ((if a = true then (1 : Int) else 0) + j)))
  | _, _, _ => False
section
variable {X : Cx}
theorem Inv.lstR {pins : List (Addr × Obj)} {s : Shared} {σ : L2.St} {H : Hp} {l : Addr} {xs : List V} (I : Inv X pins σ H s) (hH : Rd H l (.lst xs)) : xs.length ≤ sizeLine ∧ ∃ (its : List Value) (n : Nat), Vals xs its ∧ xs.length = its.length ∧ s.heap.get? l = some { cls := .type "list", data := .seq its.toArray n } := by
  obtain ⟨z, its, n, r, e⟩ := hH.ok I.hok
  exact ⟨z, its, n, r, r.length, e⟩
def rCatR : R2 := fun x y H Q => ∃ l b xs zs, x = .ref l ∧ y = .ref b ∧ Rd H l (.lst xs) ∧ Rd H b (.lst zs) ∧ xs.length + zs.length ≤ sizeLine ∧ ∀ p, H p = none → Q (.ref p) (upd H p (.lst (xs ++ zs)))
theorem op_catR : OpR X (binaryOp .Add) rCatR := by
  intro pins s σ H x y v u Q I rx ry h
  obtain ⟨l, b, xs, zs, rfl, rfl, hH, hB, hz, q⟩ := h
  cases rx
  cases ry
  obtain ⟨z, its, n, r, hl, e⟩ := Inv.lstR I hH
  obtain ⟨z2, its2, n2, r2, hl2, e2⟩ := Inv.lstR I hB
  refine PySem.P.add_list e e2 ?_ (by rw [List.size_toArray, List.size_toArray]; omega)
  have ea : its.toArray ++ its2.toArray = (its ++ its2).toArray := by simp
  rw [ea]
  exact ⟨.ref _, _, I.lnew (t' := s.toks) (r.append r2) (by rw [List.length_append]; omega), rfl, q _ I.fresh⟩
/-- .. the first one of the module's -/
def rCatK (K : PySem.W.Frag) : R2 := fun x y H Q => ∃ l b xs zs, x = .ref l ∧ y = .ref b ∧ SqL K H l xs ∧ SqL K H b zs ∧ xs.length + zs.length ≤ sizeLine ∧ ∀ p, H p = none → Q (.ref p) (upd H p (.lst (xs ++ zs)))
theorem op_catK : OpR X (binaryOp .Add) (rCatK X.K) := by
  intro pins s σ H x y v u Q I rx ry h
  obtain ⟨l, b, xs, zs, rfl, rfl, hl, hb, hz, q⟩ := h
  cases rx
  cases ry
  obtain ⟨its, r, p, z⟩ := I.list hl
  obtain ⟨its2, r2, p2, z2⟩ := I.list hb
  obtain ⟨⟨c1, d1, t1, s1⟩, e1, k1, n1, j1⟩ := p.isList
  obtain ⟨⟨c2, d2, t2, s2⟩, e2, k2, n2, j2⟩ := p2.isList
  dsimp only at k1 j1 k2 j2
  subst k1 j1 k2 j2
  have hz' : its.toArray.size + its2.toArray.size ≤ sizeLine := by rw [List.size_toArray, List.size_toArray, ← r.length, ← r2.length]; exact hz
  refine concat_meets ⟨_, e1, rfl⟩ ⟨_, e2, rfl⟩ noFill_list_add seq_list_add PySem.F.slot_list_add PySem.F.entry_list_add (PySem.F.args_list_add_2 _ _) (list_addW l b _ _ n1 n2 d1 d2 s1 s2 hz') ⟨e1, e2, ?_⟩
  have ea : its.toArray ++ its2.toArray = (its ++ its2).toArray := by simp
  rw [ea]
  exact ⟨.ref _, _, I.lnew (t' := s.toks) (r.append r2) (by rw [List.length_append]; exact hz), rfl, q _ I.fresh⟩
theorem o_add : Op2 X (binaryOp .Add) opAdd := by
  refine ⟨fun d e K K' i q => ?_, fun pins s σ H g d e x y v u K I tr c1 c2 r1 r2 q => ?_⟩
  · unfold opAdd at q ⊢
    split at q <;> first | exact i _ q | exact ⟨q.1, i _ q.2⟩ | exact q
  · unfold opAdd at q
    split at q
    · rw [c1.int] at r1; rw [c2.int] at r2
      exact op_add pins s σ H _ _ v u _ I r1 r2 ⟨_, _, rfl, rfl, rk_int q⟩
    · obtain ⟨a, vs, rfl, h1, h2⟩ := c1.tup
      obtain ⟨b, ws, rfl, k1, k2⟩ := c2.tup
      refine op_catA pins s σ H _ _ v u _ I r1 r2 ⟨a, b, vs, ws, rfl, rfl, SqT.at h1, SqT.at k1, by rw [← h2.length, ← k2.length]; exact q.1, fun e => ?_, fun e e' => ?_, fun _ _ p hp => rk_tup tr (h2.append k2) hp q.2⟩
      · subst e; cases h2
        exact rk_rep (.tup k1 k2) q.2
      · subst e'; cases k2
        exact rk_rep (.tup h1 h2) (by rw [List.append_nil] at q; exact q.2)
    · obtain ⟨a, vs, rfl, h1, h2⟩ := c1.lst
      obtain ⟨b, ws, rfl, k1, k2⟩ := c2.lst
      exact op_catR pins s σ H _ _ v u _ I r1 r2 ⟨a, b, vs, ws, rfl, rfl, h1, k1, by rw [← h2.length, ← k2.length]; exact q.1, fun p hp => rk_lst tr (h2.append k2) hp q.2⟩
    · rw [c1.str] at r1; rw [c2.str] at r2
      exact op_add_str pins s σ H _ _ v u _ I r1 r2 ⟨_, _, rfl, rfl, q.1, rk_str q.2⟩
    · obtain ⟨a, vs, rfl, h1, h2⟩ := c1.kst
      obtain ⟨b, ws, rfl, k1, k2⟩ := c2.lst
      exact op_catK pins s σ H _ _ v u _ I r1 r2 ⟨a, b, vs, ws, rfl, rfl, h1.sq, .inl k1, by rw [← h2.length, ← k2.length]; exact q.1, fun p hp => rk_lst tr (h2.append k2) hp q.2⟩
    · rw [c1.bl] at r1; rw [c2.int] at r2
      cases r1
      obtain ⟨t, rfl⟩ := r2
      exact IntBool.add_bool_int ⟨.int _, H, I.tok _, ⟨_, rfl⟩, rk_int q⟩
    · exact q.elim
/-! ### ints alone -/
def opInt (C : Int → Int → Prop) (f : Int → Int → D) : O2
  | .int i, .int j, K => C i j ∧ K (.val (f i j))
  | _, _, _ => False
theorem o_intI {f : Value → Value → Sem Value} {C : Int → Int → Prop} {k : Int → Int → Int} (h : OpR X f (rI C fun i j => .int (k i j))) : Op2 X f (opInt C fun i j => .int (k i j)) := by
  refine ⟨fun d e K K' i q => ?_, fun pins s σ H g d e x y v u K I tr c1 c2 r1 r2 q => ?_⟩
  · unfold opInt at q ⊢
    split at q <;> first | exact ⟨q.1, i _ q.2⟩ | exact q
  · unfold opInt at q
    split at q
    · rw [c1.int] at r1; rw [c2.int] at r2
      exact h pins s σ H _ _ v u _ I r1 r2 ⟨_, _, rfl, rfl, q.1, rk_int q.2⟩
    · exact q.elim
def opInt0 (f : Int → Int → D) : O2
  | .int i, .int j, K => K (.val (f i j))
  | _, _, _ => False
theorem o_int0 {f : Value → Value → Sem Value} {k : Int → Int → Int} (h : OpR X f (rI0 fun i j => .int (k i j))) : Op2 X f (opInt0 fun i j => .int (k i j)) := by
  refine ⟨fun d e K K' i q => ?_, fun pins s σ H g d e x y v u K I tr c1 c2 r1 r2 q => ?_⟩
  · unfold opInt0 at q ⊢
    split at q <;> first | exact i _ q | exact q
  · unfold opInt0 at q
    split at q
    · rw [c1.int] at r1; rw [c2.int] at r2
      exact h pins s σ H _ _ v u _ I r1 r2 ⟨_, _, rfl, rfl, rk_int q⟩
    · exact q.elim
theorem o_cmp0 {f : Value → Value → Sem Value} {k : Int → Int → Bool} (h : OpR X f (rI0 fun i j => .bl (k i j))) : Op2 X f (opInt0 fun i j => .bl (k i j)) := by
  refine ⟨fun d e K K' i q => ?_, fun pins s σ H g d e x y v u K I tr c1 c2 r1 r2 q => ?_⟩
  · unfold opInt0 at q ⊢
    split at q <;> first | exact i _ q | exact q
  · unfold opInt0 at q
    split at q
    · rw [c1.int] at r1; rw [c2.int] at r2
      exact h pins s σ H _ _ v u _ I r1 r2 ⟨_, _, rfl, rfl, rk_bl q⟩
    · exact q.elim
abbrev opSub : O2 := opInt0 fun i j => .int (i - j)
abbrev opMod : O2 := opInt (fun _ j => 0 < j) fun i j => .int (i % j)
abbrev opDiv : O2 := opInt CDiv fun i j => .int (i / j)
abbrev opPow : O2 := opInt CPow fun i j => .int (i ^ j.toNat)
abbrev opLt : O2 := opInt0 fun i j => .bl (decide (i < j))
abbrev opLe : O2 := opInt0 fun i j => .bl (decide (i ≤ j))
abbrev opGt : O2 := opInt0 fun i j => .bl (decide (j < i))
abbrev opGe : O2 := opInt0 fun i j => .bl (decide (j ≤ i))
theorem o_sub : Op2 X (binaryOp .Sub) opSub := o_int0 op_sub
theorem o_mod : Op2 X (binaryOp .Mod) opMod := o_intI op_mod
theorem o_div : Op2 X (binaryOp .FloorDiv) opDiv := o_intI op_fdiv
theorem o_pow : Op2 X (binaryOp .Pow) opPow := o_intI op_pow
theorem o_lt : Op2 X (compareOp .Lt) opLt := o_cmp0 op_lt
theorem o_le : Op2 X (compareOp .LtE) opLe := o_cmp0 op_le
theorem o_gt : Op2 X (compareOp .Gt) opGt := o_cmp0 op_gt
theorem o_ge : Op2 X (compareOp .GtE) opGe := o_cmp0 op_ge
/-! ### * -/
def opMul : O2
  | .int i, .int j, K => CMul i j ∧ K (.val (.int (i * j)))
  | .tup xs, .int k, K => (xs ≠ [] ∧ 2 ≤ k ∧ k ≤ 1000 ∧ xs.length ≤ 1000) ∧ K (.val (.tup (List.replicate k.toNat xs).flatten))
  | .lst xs, .int k, K => (-(2 ^ 63) ≤ k ∧ k < 2 ^ 63 ∧ xs.length * k.toNat ≤ sizeLine) ∧ K (.own (.lst (List.replicate k.toNat xs).flatten))
  | _, _, _ => False
theorem RepAll.rep {mg : Str → Option Value} {w : WK} {g : Gh} {H : Hp} {ds : List D} {vs : List V} (r : RepAll mg w g H ds vs) : ∀ n, RepAll mg w g H (List.replicate n ds).flatten (List.replicate n vs).flatten
  | 0 => .nil
  | n + 1 => by
    rw [List.replicate_succ, List.replicate_succ, List.flatten_cons, List.flatten_cons]
    exact r.append (RepAll.rep r n)
/-- a list in H by its datum, made writable for the layer's rule -/
def rRepR : R2 := fun x y H Q => ∃ l k xs, x = .ref l ∧ y = .int k ∧ Rd H l (.lst xs) ∧ -(2 ^ 63) ≤ k ∧ k < 2 ^ 63 ∧ xs.length * k.toNat ≤ sizeLine ∧ ∀ p, H p = none → Q (.ref p) (upd H p (.lst (List.replicate k.toNat xs).flatten))
theorem op_repR : OpR X (binaryOp .Mult) rRepR := by
  intro pins s σ H x y v u Q I rx ry h
  obtain ⟨l, k, xs, rfl, rfl, hH, h1, h2, hz, q⟩ := h
  cases rx
  obtain ⟨t, rfl⟩ := ry
  obtain ⟨z, its, n, r, hl, e⟩ := Inv.lstR I hH
  have hlen : its.toArray.size * k.toNat ≤ sizeLine := by rw [List.size_toArray, ← hl]; exact hz
  have hcap : ¬ its.toArray.size * k.toNat > (2 ^ 63 - 1) / 8 := by
    have : (sizeLine : Nat) ≤ (2 ^ 63 - 1) / 8 := by decide
    omega
  have hfit : ¬ (!Builtin.List.listFitsIndex k) = true := by
    rw [fitsIndex_both h1 h2]
    exact Bool.false_ne_true
  have hlong : ¬ Builtin.List.listTooLong (its.toArray.size * k.toNat) = true := by
    rw [notLongL hlen]
    exact Bool.false_ne_true
  have hnew : List.foldl (fun x1 x2 => x1 ++ x2) #[] (List.replicate (if its.toArray.isEmpty = true then 0 else k.toNat) its.toArray) = (List.replicate k.toNat its).flatten.toArray := by
    have f0 : ∀ m : Nat, List.foldl (fun x1 x2 => x1 ++ x2) #[] (List.replicate m its.toArray) = (List.replicate m its).flatten.toArray := fun m => by
      have := foldl_rep its m []
      rw [List.nil_append] at this
      exact this
    rw [f0]
    cases its with
    | nil => simp
    | cons a r' => rw [if_neg (by simp)]
  refine wpAny_binaryOp_repeat_ref (T := "list") (U := "int") (by decide) ⟨_, e, rfl⟩ (fun s' => typeIs_int s' k t) noFill_list_mul F.fills_int_mul F.slot_int_rmul repeat_list F.slot_int_index.lookup
    (call_meets F.slot_int_rmul (typeIs_int s k t) F.entry_int_rmul (F.args_int_rmul_2 _ _) (int___rmul___int_list k t l its.toArray n)
      ⟨e, rfl, ⟨_, e, rfl⟩, call_meets F.slot_list_mul ⟨_, e, rfl⟩ F.entry_list_mul (F.args_list_mul_2 _ _) (AutoListH.list___mul___list_int_3 l its.toArray n k t hfit hcap hlong) ⟨e, ?_⟩⟩)
  rw [hnew]
  exact ⟨.ref _, _, I.lnew (t' := s.toks) (r.rep k.toNat) (by rw [PyProof.Rows.lm_len_rep_flat, Nat.mul_comm]; exact hz), rfl, q _ I.fresh⟩
theorem o_mul : Op2 X (binaryOp .Mult) opMul := by
  refine ⟨fun d e K K' i q => ?_, fun pins s σ H g d e x y v u K I tr c1 c2 r1 r2 q => ?_⟩
  · unfold opMul at q ⊢
    split at q <;> first | exact ⟨q.1, i _ q.2⟩ | exact q
  · unfold opMul at q
    split at q
    · rw [c1.int] at r1; rw [c2.int] at r2
      exact op_mul pins s σ H _ _ v u _ I r1 r2 ⟨_, _, rfl, rfl, q.1, rk_int q.2⟩
    · obtain ⟨a, vs, rfl, h1, h2⟩ := c1.tup
      rw [c2.int] at r2
      obtain ⟨⟨q1, q2, q3, q4⟩, q⟩ := q
      exact op_repT pins s σ H _ _ v u _ I r1 r2 ⟨a, _, vs, rfl, rfl, SqT.at h1, fun e => q1 (by subst e; cases h2; rfl), q2, q3, by rw [← h2.length]; exact q4, fun p hp => rk_tup tr (h2.rep _) hp q⟩
    · obtain ⟨a, vs, rfl, h1, h2⟩ := c1.lst
      rw [c2.int] at r2
      obtain ⟨⟨q1, q2, q3⟩, q⟩ := q
      exact op_repR pins s σ H _ _ v u _ I r1 r2 ⟨a, _, vs, rfl, rfl, h1, q1, q2, by rw [← h2.length]; exact q3, fun p hp => rk_lst tr (h2.rep _) hp q⟩
    · exact q.elim
/-! ### is -/
def D.isNon : D → Bool
  | .non => true
  | .bl _ => false
  | .int _ => false
  | .str _ => false
  | .tup _ => false
  | .lst _ => false
  | .dct _ _ => false
  | .ref _ => false
  | .fn _ => false
  | .kst _ => false
def opIs (neg : Bool) : O2
  | .bl a, .bl b, K => K (.val (.bl (if neg then !decide (a = b) else decide (a = b))))
  | d, .non, K => K (.val (.bl (if neg then !d.isNon else d.isNon)))
  | _, _, _ => False
theorem cont_non {g : Gh} {H : Hp} {d : D} {x : V} (c : Cont X.mg X.wk g H d x) : decide (x = .non) = d.isNon := by
  rcases c with r | ⟨a, m, rfl, rfl, h⟩
  · cases r <;> rfl
  · cases m <;> rfl
theorem o_is : Op2 X (compareOp .Is) (opIs false) := by
  refine ⟨fun d e K K' i q => ?_, fun pins s σ H g d e x y v u K I tr c1 c2 r1 r2 q => ?_⟩
  · unfold opIs at q ⊢
    split at q <;> first | exact i _ q | exact q
  · unfold opIs at q
    split at q
    · rw [c1.bl] at r1; rw [c2.bl] at r2
      exact op_is_bl pins s σ H _ _ v u _ I r1 r2 ⟨_, _, rfl, rfl, rk_bl q⟩
    · rw [c2.non] at r2
      refine op_isN pins s σ H _ _ v u _ I r1 r2 ⟨rfl, ?_⟩
      rw [cont_non c1]
      exact rk_bl q
    · exact q.elim
theorem o_isnot : Op2 X (compareOp .IsNot) (opIs true) := by
  refine ⟨fun d e K K' i q => ?_, fun pins s σ H g d e x y v u K I tr c1 c2 r1 r2 q => ?_⟩
  · unfold opIs at q ⊢
    split at q <;> first | exact i _ q | exact q
  · unfold opIs at q
    split at q
    · rw [c1.bl] at r1; rw [c2.bl] at r2
      exact op_isnot_bl pins s σ H _ _ v u _ I r1 r2 ⟨_, _, rfl, rfl, rk_bl q⟩
    · rw [c2.non] at r2
      refine op_notN pins s σ H _ _ v u _ I r1 r2 ⟨rfl, ?_⟩
      rw [cont_non c1]
      exact rk_bl q
    · exact q.elim
end

/-! ### == -/
mutual
def D.pd : D → PyData
  | .non => .none
  | .bl b => .bool b
  | .int i => .int i
  | .str x => .str x
  | .tup xs => .tuple (D.pds xs)
  | .lst xs => .list (D.pds xs)
  | .dct _ _ => .none
  | .ref _ => .none
  | .fn _ => .none
  | .kst _ => .none
def D.pds : List D → List PyData
  | [] => []
  | x :: xs => D.pd x :: D.pds xs
end
mutual
/-- data without dicts, references, defs; texts as they may be -/
def D.isData : D → Bool
  | .non => true
  | .bl _ => true
  | .int _ => true
  | .str x => PyData.strOk x
  | .tup xs => D.allData xs
  | .lst xs => D.allData xs
  | .dct _ _ => false
  | .ref _ => false
  | .fn _ => false
  | .kst _ => false
def D.allData : List D → Bool
  | [] => true
  | x :: xs => D.isData x && D.allData xs
end
mutual
def D.eqv : D → D → Bool
  | .non, e => match e with | .non => true | _ => false
  | .bl a, e => match e with | .bl b => a == b | .int j => (if a then 1 else 0) == j | _ => false
  | .int i, e => match e with | .int j => i == j | .bl b => i == (if b then 1 else 0) | _ => false
  | .str x, e => match e with | .str y => x == y | _ => false
  | .tup xs, e => match e with | .tup ys => D.eqvs xs ys | _ => false
  | .lst xs, e => match e with | .lst ys => D.eqvs xs ys | _ => false
  | .dct _ _, _ => false
  | .ref _, _ => false
  | .fn _, _ => false
  | .kst _, _ => false
def D.eqvs : List D → List D → Bool
  | [], ys => match ys with | [] => true | _ :: _ => false
  | x :: xs, ys => match ys with | [] => false | y :: ys => D.eqv x y && D.eqvs xs ys
end
mutual
def D.dep : D → Nat
  | .tup xs => D.deps xs + 1
  | .lst xs => D.deps xs + 1
  | .non => 0
  | .bl _ => 0
  | .int _ => 0
  | .str _ => 0
  | .dct _ _ => 0
  | .ref _ => 0
  | .fn _ => 0
  | .kst _ => 0
def D.deps : List D → Nat
  | [] => 0
  | x :: xs => max (D.dep x) (D.deps xs)
end
end VC

set_option Elab.async false
set_option linter.all false
set_option maxRecDepth 100000
set_option maxHeartbeats 4000000
/-! VD: equality, tests, displays, calls. -/
namespace VC
open PySem PySem.Spec PyProof.Rows L2

mutual
theorem eqv_pd : ∀ d e : D, d.isData = true → e.isData = true → D.eqv d e = PyData.eqv d.pd e.pd
  | .non, e, _, h => by cases e <;> first | (simp [D.isData] at h; done) | simp [D.eqv, D.pd, PyData.eqv]
  | .bl a, e, _, h => by cases e <;> first | (simp [D.isData] at h; done) | simp [D.eqv, D.pd, PyData.eqv]
  | .int a, e, _, h => by cases e <;> first | (simp [D.isData] at h; done) | simp [D.eqv, D.pd, PyData.eqv]
  | .str a, e, _, h => by cases e <;> first | (simp [D.isData] at h; done) | simp [D.eqv, D.pd, PyData.eqv]
  | .tup xs, e, k, h => by
    cases e with
    | tup ys =>
      simp only [D.isData] at h k
      simp only [D.eqv, D.pd, PyData.eqv]
      exact eqvs_pd xs ys k h
    | _ => first | (simp [D.isData] at h; done) | simp [D.eqv, D.pd, PyData.eqv]
  | .lst xs, e, k, h => by
    cases e with
    | lst ys =>
      simp only [D.isData] at h k
      simp only [D.eqv, D.pd, PyData.eqv]
      exact eqvs_pd xs ys k h
    | _ => first | (simp [D.isData] at h; done) | simp [D.eqv, D.pd, PyData.eqv]
  | .dct _ _, _, k, _ => by simp [D.isData] at k
  | .ref _, _, k, _ => by simp [D.isData] at k
  | .fn _, _, k, _ => by simp [D.isData] at k
  | .kst _, _, k, _ => by simp [D.isData] at k
theorem eqvs_pd : ∀ ds es : List D, D.allData ds = true → D.allData es = true → D.eqvs ds es = PyData.eqvAll (D.pds ds) (D.pds es)
  | [], ys, _, _ => by cases ys <;> simp [D.eqvs, D.pds, PyData.eqvAll]
  | x :: xs, ys, k, h => by
    cases ys with
    | nil => simp [D.eqvs, D.pds, PyData.eqvAll]
    | cons y ys =>
      simp only [D.allData, Bool.and_eq_true] at h k
      simp only [D.eqvs, D.pds, PyData.eqvAll]
      rw [eqv_pd x y k.1 h.1, eqvs_pd xs ys k.2 h.2]
end
section
variable {mg : Str → Option Value} {w : WK} {g : Gh} {H : Hp} {K : PySem.W.Frag}
mutual
theorem Rep.dp : ∀ {d : D} {v : V}, Rep mg w g H d v → d.isData = true → Dp K H v d.pd
  | _, _, .non, _ => .non
  | _, _, .bl _, _ => .bl _
  | _, _, .int _, _ => .int _
  | _, _, .str _, _ => .str _
  | _, _, .tup h1 h2, q => .tup (SqT.at h1) (RepAll.dp h2 (by simpa [D.isData] using q))
  | _, _, .lst _ h1 h2, q => .lst (.inl h1) (RepAll.dp h2 (by simpa [D.isData] using q))
  | _, _, .dct _ _ _ _ _, q => by simp [D.isData] at q
  | _, _, .ref _, q => by simp [D.isData] at q
  | _, _, .fn _, q => by simp [D.isData] at q
  | _, _, .kst _ _, q => by simp [D.isData] at q
theorem RepAll.dp : ∀ {ds : List D} {vs : List V}, RepAll mg w g H ds vs → D.allData ds = true → DpAll K H vs (D.pds ds)
  | _, _, .nil, _ => .nil
  | _, _, .cons h1 h2, q => .cons (Rep.dp h1 (by simp only [D.allData, Bool.and_eq_true] at q; exact q.1)) (RepAll.dp h2 (by simp only [D.allData, Bool.and_eq_true] at q; exact q.2))
end
theorem Cont.dp {d : D} {v : V} (c : Cont mg w g H d v) (q : d.isData = true) : Dp K H v d.pd := by
  rcases c with r | ⟨a, m, rfl, rfl, h⟩
  · exact r.dp q
  · cases m with
    | lst ds => obtain ⟨vs, h1, h2⟩ := h; exact .lst (SqL.of h1) (h2.dp (by simpa [D.isData] using q))
    | dct ks ds => simp [D.isData] at q
end
/-- data that may be compared -/
def D.cmp (d : D) : Bool := d.isData && SeqAt.shaped d.pd
def opEq (neg : Bool) : O2
  | .int i, .int j, K => K (.val (.bl (if neg then !decide (i = j) else decide (i = j))))
  | .str i, .str j, K => K (.val (.bl (if neg then !decide (i = j) else decide (i = j))))
  | d, e, K => (d.cmp = true ∧ e.cmp = true) ∧ K (.val (.bl (if neg then !D.eqv d e else D.eqv d e)))
section
variable {X : Cx}
theorem opEq_mono (neg : Bool) : Mo2 (opEq neg) := fun d e K K' i q => by
  unfold opEq at q ⊢
  split at q <;> first | exact i _ q | exact ⟨q.1, i _ q.2⟩
theorem o_eq (hu : X.A.units + 64 < cLine) : Op2 X (compareOp .Eq) (opEq false) := by
  refine ⟨opEq_mono _, fun pins s σ H g d e x y v u K I tr c1 c2 r1 r2 q => ?_⟩
  unfold opEq at q
  split at q
  · rw [c1.int] at r1; rw [c2.int] at r2
    refine op_eq pins s σ H _ _ v u _ I r1 r2 ⟨rfl, ?_⟩
    rw [dec_int, Bool.beq_eq_decide_eq]
    exact rk_bl q
  · rw [c1.str] at r1; rw [c2.str] at r2
    refine op_eq pins s σ H _ _ v u _ I r1 r2 ⟨rfl, ?_⟩
    rw [dec_str, Bool.beq_eq_decide_eq]
    exact rk_bl q
  · obtain ⟨⟨q1, q2⟩, q⟩ := q
    simp only [D.cmp, Bool.and_eq_true] at q1 q2
    refine op_eqD hu pins s σ H _ _ v u _ I r1 r2 ⟨_, _, c1.dp q1.1, c2.dp q2.1, q1.2, q2.2, ?_⟩
    rw [← eqv_pd _ _ q1.1 q2.1]
    exact rk_bl q
theorem o_ne (hu : X.A.units + 64 < cLine) : Op2 X (compareOp .NotEq) (opEq true) := by
  refine ⟨opEq_mono _, fun pins s σ H g d e x y v u K I tr c1 c2 r1 r2 q => ?_⟩
  unfold opEq at q
  split at q
  · rw [c1.int] at r1; rw [c2.int] at r2
    refine op_ne pins s σ H _ _ v u _ I r1 r2 ⟨rfl, ?_⟩
    rw [dec_int, Bool.beq_eq_decide_eq]
    exact rk_bl q
  · rw [c1.str] at r1; rw [c2.str] at r2
    refine op_ne pins s σ H _ _ v u _ I r1 r2 ⟨rfl, ?_⟩
    rw [dec_str, Bool.beq_eq_decide_eq]
    exact rk_bl q
  · obtain ⟨⟨q1, q2⟩, q⟩ := q
    simp only [D.cmp, Bool.and_eq_true] at q1 q2
    refine op_neD hu pins s σ H _ _ v u _ I r1 r2 ⟨_, _, c1.dp q1.1, c2.dp q2.1, q1.2, q2.2, ?_⟩
    rw [← eqv_pd _ _ q1.1 q2.1]
    exact rk_bl q

/-! ### tests -/
variable {B : Hp} {g0 : Gh} {e a b c : Expr} {es rest : List Expr} {pos : Pos}
def tb : T → (Bool → Prop) → Prop
  | .val (.bl k), K => K k
  | _, _ => False
theorem tb_mono {t : T} {K K' : Bool → Prop} (i : ∀ k, K k → K' k) (q : tb t K) : tb t K' := by
  unfold tb at q ⊢
  split at q <;> first | exact i _ q | exact q
theorem tb_bl {t : T} {K : Bool → Prop} (q : tb t K) : ∃ k, t = .val (.bl k) ∧ K k := by
  unfold tb at q
  split at q
  · exact ⟨_, rfl, q⟩
  · exact q.elim
def wTst (W : WE) : WT := fun env S Q => W env S fun t env' S' => tb t fun k => Q k env' S'
theorem wTst_mono {W : WE} (m : Mo W) : Mo (wTst W) := fun _ _ _ _ i q => m _ _ _ _ (fun _ _ _ q => tb_mono (fun _ => i _ _ _) q) q
theorem tst_imp {W : WE} {σ : L2.St} {H : Hp} {env : VEnv} {S : Sto} {g : Gh} {Q : Bool → VEnv → Sto → Prop} (R : Rp X.mg X.wk B g0 g H σ env S) (q : wTst W env S Q) : tE X B g0 W σ H fun x H1 => ∃ k, x = .bl k ∧ BQ X B g0 g H σ Q k H1 := by
  refine ⟨env, S, g, _, R, q, fun v H' ⟨g', t, env', S', st, R', rt, q'⟩ => ?_⟩
  obtain ⟨k, rfl, q'⟩ := tb_bl q'
  cases rt
  exact ⟨k, rfl, g', env', S', st, R', q'⟩
theorem vt_val {W : WE} (h : VE X B g0 e W) (he : ∀ whole, isTrue e X.env whole = (do let v ← whole; standAt e.pos; holding [v] (truthy v)) := by intro _; rfl) : VT X B g0 e (wTst W) :=
  VT.of (wTst_mono h.mono) (pt_val h.pe he) fun σ H env S g Q R q => tst_imp R q
theorem vt_cmp {op : CmpOp} {o : O2} {Wa Wb : WO} (ho : Op2 X (compareOp op) o) (ha : VO X B g0 a Wa) (hb : VO X B g0 b Wb) (hm : behindInMarks op b = false := by first | exact nomark _ | rfl) : VT X B g0 (.Compare a [op] [b] pos) (wTst (wB o Wa Wb)) := by
  refine VT.of (wTst_mono (wB_mono ho.mono ha.mono hb.mono)) (pt_cmpR ho.opr ha.pe hb.pe hm) fun σ H env S g Q R q => ?_
  refine ⟨env, S, g, _, R, q, fun x H1 ⟨g1, d, env1, S1, st1, R1, t1, q1⟩ => ⟨env1, S1, g1, _, R1, q1, fun y H2 ⟨g2, e, env2, S2, st2, R2, t2, q2⟩ => ?_⟩⟩
  refine ⟨g2, _, _, _, R2.sto.tr, (t1.stp st2).cont R2.sto, t2.cont R2.sto, q2, fun z H3 ⟨t, hn, rr, k⟩ => ?_⟩
  obtain ⟨k', rfl, k⟩ := tb_bl k
  cases rr
  exact ⟨k', rfl, g2, env2, S2, (st1.trans st2).trans (hn.stp R2.sto.tr), R2.new hn, k⟩
def wNot (W : WT) : WT := fun env S Q => W env S fun c env' S' => Q (!c) env' S'
theorem vt_not {W : WT} (h : VT X B g0 e W) : VT X B g0 (.UnaryOp .Not e pos) (wNot W) :=
  VT.of (fun _ _ _ _ i q => h.mono _ _ _ _ (fun _ _ _ => i _ _ _) q) (pt_not h.pt) fun σ H env S g Q R q => ⟨env, S, g, _, R, q, fun k H' q => q⟩
def wAnd (Wa Wb : WT) : WT := fun env S Q => Wa env S fun c env' S' => Ite c (Wb env' S' Q) (Q false env' S')
def wOr (Wa Wb : WT) : WT := fun env S Q => Wa env S fun c env' S' => Ite c (Q true env' S') (Wb env' S' Q)
theorem wAnd_mono {Wa Wb : WT} (ma : Mo Wa) (mb : Mo Wb) : Mo (wAnd Wa Wb) := fun _ _ _ _ i q => ma _ _ _ _ (fun c _ _ q => q.mono (mb _ _ _ _ i) (i _ _ _)) q
theorem wOr_mono {Wa Wb : WT} (ma : Mo Wa) (mb : Mo Wb) : Mo (wOr Wa Wb) := fun _ _ _ _ i q => ma _ _ _ _ (fun c _ _ q => q.mono (i _ _ _) (mb _ _ _ _ i)) q
theorem vw_and1 {W : WT} (h : VT X B g0 a W) : VW X B g0 (.BoolOp .And [a] pos) W := ⟨h.mono, pw_and1 h.pt⟩
theorem vw_or1 {W : WT} (h : VT X B g0 a W) : VW X B g0 (.BoolOp .Or [a] pos) W := ⟨h.mono, pw_or1 h.pt⟩
theorem BQ.stp {g g1 : Gh} {H H1 H2 : Hp} {σ : L2.St} {Q : Bool → VEnv → Sto → Prop} {k : Bool} (st : Stp g H g1 H1) (q : BQ X B g0 g1 H1 σ Q k H2) : BQ X B g0 g H σ Q k H2 :=
  let ⟨g', env', S', st', R', q⟩ := q; ⟨g', env', S', st.trans st', R', q⟩
theorem VQ.stp {g g1 : Gh} {H H1 H2 : Hp} {σ : L2.St} {Q : T → VEnv → Sto → Prop} {k : V} (st : Stp g H g1 H1) (q : VQ X B g0 g1 H1 σ Q k H2) : VQ X B g0 g H σ Q k H2 :=
  let ⟨g', t, env', S', st', R', q⟩ := q; ⟨g', t, env', S', st.trans st', R', q⟩
theorem vw_and {Wa Wb : WT} (ha : VT X B g0 a Wa) (hb : VW X B g0 (.BoolOp .And (b :: rest) pos) Wb) : VW X B g0 (.BoolOp .And (a :: b :: rest) pos) (wAnd Wa Wb) := by
  refine VW.of (wAnd_mono ha.mono hb.mono) (pw_and ha.pt hb.pw) fun σ H env S g Q R q => ?_
  refine ⟨env, S, g, _, R, q, fun k H' ⟨g1, env1, S1, st, R1, q1⟩ => ?_⟩
  cases k with
  | true => exact ⟨env1, S1, g1, _, R1, q1.t, fun _ _ q => BQ.stp st q⟩
  | false => exact ⟨g1, env1, S1, st, R1, q1.f⟩
theorem vw_or {Wa Wb : WT} (ha : VT X B g0 a Wa) (hb : VW X B g0 (.BoolOp .Or (b :: rest) pos) Wb) : VW X B g0 (.BoolOp .Or (a :: b :: rest) pos) (wOr Wa Wb) := by
  refine VW.of (wOr_mono ha.mono hb.mono) (pw_or ha.pt hb.pw) fun σ H env S g Q R q => ?_
  refine ⟨env, S, g, _, R, q, fun k H' ⟨g1, env1, S1, st, R1, q1⟩ => ?_⟩
  cases k with
  | false => exact ⟨env1, S1, g1, _, R1, q1.f, fun _ _ q => BQ.stp st q⟩
  | true => exact ⟨g1, env1, S1, st, R1, q1.t⟩
/-! .. as values -/
def vAnd (Wa Wb : WE) : WE := fun env S Q => Wa env S fun t env' S' => tb t fun c => Ite c (Wb env' S' Q) (Q (.val (.bl false)) env' S')
def vOr (Wa Wb : WE) : WE := fun env S Q => Wa env S fun t env' S' => tb t fun c => Ite c (Q (.val (.bl true)) env' S') (Wb env' S' Q)
theorem ve_one {op : BoolOp} {W : WE} (h : VE X B g0 a W) : VE X B g0 (.BoolOp op [a] pos) W := ⟨h.mono, pe_one h.pe⟩
theorem ve_and {Wa Wb : WE} (ha : VE X B g0 a Wa) (hb : VE X B g0 (.BoolOp .And (b :: rest) pos) Wb) : VE X B g0 (.BoolOp .And (a :: b :: rest) pos) (vAnd Wa Wb) := by
  refine VE.of (fun _ _ _ _ i q => ha.mono _ _ _ _ (fun t _ _ q => tb_mono (fun c q => ?_) q) q) (pe_and ha.pe hb.pe) fun σ H env S g Q R q => ?_
  · exact q.mono (hb.mono _ _ _ _ i) (i _ _ _)
  · refine ⟨env, S, g, _, R, q, fun v H' ⟨g1, t, env1, S1, st, R1, rt, q1⟩ => ?_⟩
    obtain ⟨c, rfl, q1⟩ := tb_bl q1
    cases rt
    refine ⟨c, rfl, ?_⟩
    cases c with
    | true => exact ⟨env1, S1, g1, _, R1, q1.t, fun _ _ q => VQ.stp st q⟩
    | false => exact ⟨g1, .val (.bl false), env1, S1, st, R1, Rep.bl _, q1.f⟩
theorem ve_or {Wa Wb : WE} (ha : VE X B g0 a Wa) (hb : VE X B g0 (.BoolOp .Or (b :: rest) pos) Wb) : VE X B g0 (.BoolOp .Or (a :: b :: rest) pos) (vOr Wa Wb) := by
  refine VE.of (fun _ _ _ _ i q => ha.mono _ _ _ _ (fun t _ _ q => tb_mono (fun c q => ?_) q) q) (pe_or ha.pe hb.pe) fun σ H env S g Q R q => ?_
  · exact q.mono (i _ _ _) (hb.mono _ _ _ _ i)
  · refine ⟨env, S, g, _, R, q, fun v H' ⟨g1, t, env1, S1, st, R1, rt, q1⟩ => ?_⟩
    obtain ⟨c, rfl, q1⟩ := tb_bl q1
    cases rt
    refine ⟨c, rfl, ?_⟩
    cases c with
    | false => exact ⟨env1, S1, g1, _, R1, q1.f, fun _ _ q => VQ.stp st q⟩
    | true => exact ⟨g1, .val (.bl true), env1, S1, st, R1, Rep.bl _, q1.t⟩
def vNot (W : WE) : WE := fun env S Q => W env S fun t env' S' => tb t fun c => Q (.val (.bl (!c))) env' S'
theorem ve_not {W : WE} (h : VE X B g0 a W) : VE X B g0 (.UnaryOp .Not a pos) (vNot W) := by
  refine VE.of (fun _ _ _ _ i q => h.mono _ _ _ _ (fun t _ _ q => tb_mono (fun c q => i _ _ _ q) q) q) (pe_not h.pe) fun σ H env S g Q R q => ?_
  refine ⟨env, S, g, _, R, q, fun v H' ⟨g1, t, env1, S1, st, R1, rt, q1⟩ => ?_⟩
  obtain ⟨c, rfl, q1⟩ := tb_bl q1
  cases rt
  exact ⟨c, rfl, g1, .val (.bl (!c)), env1, S1, st, R1, Rep.bl _, q1⟩
/-- a if t else b -/
def wIf (Wt : WT) (Wa Wb : WE) : WE := fun env S Q => Wt env S fun c env' S' => Ite c (Wa env' S' Q) (Wb env' S' Q)
theorem ve_if {Wt : WT} {Wa Wb : WE} (hc : VT X B g0 c Wt) (ha : VE X B g0 a Wa) (hb : VE X B g0 b Wb) : VE X B g0 (.IfExp c a b pos) (wIf Wt Wa Wb) := by
  refine VE.of (fun _ _ _ _ i q => hc.mono _ _ _ _ (fun c _ _ q => ?_) q) (pe_ifExp hc.pt ha.pe hb.pe) fun σ H env S g Q R q => ?_
  · exact q.mono (ha.mono _ _ _ _ i) (hb.mono _ _ _ _ i)
  · refine ⟨env, S, g, _, R, q, fun k H' ⟨g1, env1, S1, st, R1, q1⟩ => ?_⟩
    cases k with
    | true => exact ⟨env1, S1, g1, _, R1, q1.t, fun _ _ q => VQ.stp st q⟩
    | false => exact ⟨env1, S1, g1, _, R1, q1.f, fun _ _ q => VQ.stp st q⟩
/-- a op b op' c -/
def wCh (o o' : O2) (Wa Wb Wc : WO) : WE := fun env S Q => Wa env S fun d env1 S1 => Wb env1 S1 fun e env2 S2 => o (dr S2 d) (dr S2 e) fun t => tb t fun k =>
  Ite k (Wc env2 S2 fun f env3 S3 => o' (dr S3 e) (dr S3 f) fun t => Q t env3 S3) (Q (.val (.bl false)) env2 S2)
theorem ve_chain {op op' : CmpOp} {o o' : O2} {Wa Wb Wc : WO} (ho : Op2 X (compareOp op) o) (ho' : Op2 X (compareOp op') o') (ha : VO X B g0 a Wa) (hb : VO X B g0 b Wb) (hc : VO X B g0 c Wc)
    (hm : lastMarks [op, op'] [b, c] = false := by with_unfolding_all rfl) : VE X B g0 (.Compare a [op, op'] [b, c] pos) (wCh o o' Wa Wb Wc) := by
  refine VE.of (fun _ _ _ _ i q => ha.mono _ _ _ _ (fun _ _ _ q => hb.mono _ _ _ _ (fun _ _ _ q => ho.mono _ _ _ _ (fun t q => tb_mono (fun k q => ?_) q) q) q) q) (pe_chain ho.opr ho'.opr ha.pe hb.pe hc.pe hm) fun σ H env S g Q R q => ?_
  · exact q.mono (hc.mono _ _ _ _ (fun _ _ _ q => ho'.mono _ _ _ _ (fun _ q => i _ _ _ q) q)) (i _ _ _)
  · refine ⟨env, S, g, _, R, q, fun x H1 ⟨g1, d, env1, S1, st1, R1, t1, q1⟩ => ⟨env1, S1, g1, _, R1, q1, fun y H2 ⟨g2, e, env2, S2, st2, R2, t2, q2⟩ => ?_⟩⟩
    refine ⟨g2, _, _, _, R2.sto.tr, (t1.stp st2).cont R2.sto, t2.cont R2.sto, q2, fun z H3 ⟨t, hn, rr, k⟩ => ?_⟩
    obtain ⟨k', rfl, k⟩ := tb_bl k
    cases rr
    refine ⟨k', rfl, ?_⟩
    have st3 := hn.stp (g := g2) R2.sto.tr
    have R3 := R2.new hn
    cases k' with
    | true =>
      refine ⟨env2, S2, g2, _, R3, k.t, fun z4 H4 ⟨g4, f, env4, S4, st4, R4, t4, q4⟩ => ?_⟩
      refine ⟨g4, _, _, _, R4.sto.tr, ((t2.stp st3).stp st4).cont R4.sto, t4.cont R4.sto, q4, fun z5 H5 ⟨t5, hn5, rr5, k5⟩ => ?_⟩
      exact ⟨g4, t5, env4, S4, (((st1.trans st2).trans st3).trans st4).trans (hn5.stp R4.sto.tr), R4.new hn5, R4.rt hn5 rr5, k5⟩
    | false => exact ⟨g2, .val (.bl false), env2, S2, (st1.trans st2).trans st3, R3, Rep.bl _, k.f⟩

/-! ### argument lists, displays -/
def wA0 : WA := fun env S Q => Q [] env S
def wAC (We : WE) (Wr : WA) : WA := fun env S Q => We env S fun t env1 S1 => Wr env1 S1 fun ds env2 S2 => Q (t.d :: ds) env2 S2
def wUC (Wo : WO) (Wr : WA) : WA := fun env S Q => Wo env S fun d env1 S1 => Wr env1 S1 fun ds env2 S2 => Q (d :: ds) env2 S2
theorem va_nil : VA X B g0 [] wA0 := VA.of (fun _ _ _ _ i q => i _ _ _ q) pa_nil fun σ H env S g Q R q => ⟨g, [], env, S, Stp.refl g H, R, .nil, q⟩
theorem vu_nil : VU X B g0 [] wA0 := VU.of (fun _ _ _ _ i q => i _ _ _ q) pa_nil fun σ H env S g Q R q => ⟨g, [], env, S, Stp.refl g H, R, .nil, q⟩
theorem va_cons {We : WE} {Wr : WA} (h : VE X B g0 e We) (hr : VA X B g0 es Wr) (hs : starEach (e :: es) X.env = (false, eval e X.env) :: starEach es X.env := by rfl) : VA X B g0 (e :: es) (wAC We Wr) := by
  refine VA.of (fun _ _ _ _ i q => h.mono _ _ _ _ (fun _ _ _ q => hr.mono _ _ _ _ (fun _ _ _ q => i _ _ _ q) q) q) (pa_cons h.pe hr.pa hs) fun σ H env S g Q R q => ?_
  refine ⟨env, S, g, _, R, q, fun v H1 ⟨g1, t, env1, S1, st1, R1, rt, q1⟩ => ?_⟩
  obtain ⟨g2, st2, R2, rp⟩ := rt.hold R1
  refine ⟨env1, S1, g2, _, R2, q1, fun vs H3 ⟨g3, ds, env3, S3, st3, R3, ra, q3⟩ => ?_⟩
  exact ⟨g3, t.d :: ds, env3, S3, (st1.trans st2).trans st3, R3, .cons (rp.mono st3.toFz) ra, q3⟩
theorem TopAll.stp {mg : Str → Option Value} {w : WK} {g g' : Gh} {H H' : Hp} (z : Stp g H g' H') : ∀ {ds : List D} {vs : List V}, TopAll mg w g H ds vs → TopAll mg w g' H' ds vs
  | _, _, .nil => .nil
  | _, _, .cons h t => .cons (h.stp z) (TopAll.stp z t)
theorem vu_cons {Wo : WO} {Wr : WA} (h : VO X B g0 e Wo) (hr : VU X B g0 es Wr) (hs : starEach (e :: es) X.env = (false, eval e X.env) :: starEach es X.env := by rfl) : VU X B g0 (e :: es) (wUC Wo Wr) := by
  refine VU.of (fun _ _ _ _ i q => h.mono _ _ _ _ (fun _ _ _ q => hr.mono _ _ _ _ (fun _ _ _ q => i _ _ _ q) q) q) (pa_cons h.pe hr.pa hs) fun σ H env S g Q R q => ?_
  refine ⟨env, S, g, _, R, q, fun v H1 ⟨g1, t, env1, S1, st1, R1, rt, q1⟩ => ?_⟩
  refine ⟨env1, S1, g1, _, R1, q1, fun vs H3 ⟨g3, ds, env3, S3, st3, R3, ra, q3⟩ => ?_⟩
  exact ⟨g3, t :: ds, env3, S3, st1.trans st3, R3, .cons (rt.stp st3) ra, q3⟩
def wTup (W : WA) : WE := fun env S Q => W env S fun ds env1 S1 => ds.length ≤ 1000 ∧ Q (.val (.tup ds)) env1 S1
def wLst (W : WA) : WE := fun env S Q => W env S fun ds env1 S1 => ds.length ≤ 1000 ∧ Q (.own (.lst ds)) env1 S1
theorem if_false {p c : Prop} (h : c ∧ p) : c ∧ p := h
theorem if_mono {p p' c : Prop} (i : p → p') (h : c ∧ p) : c ∧ p' := ⟨h.1, i h.2⟩
theorem ve_tup {W : WA} {k : Nat} (h : VA X B g0 es W) : VE X B g0 (.Tuple es k pos) (wTup W) := by
  refine VE.of (fun _ _ _ _ i q => h.mono _ _ _ _ (fun _ _ _ q => if_mono (i _ _ _) q) q) (pe_tup h.pa) fun σ H env S g Q R q => ?_
  refine ⟨env, S, g, _, R, q, fun vs H1 ⟨g1, ds, env1, S1, st1, R1, ra, q1⟩ => ?_⟩
  obtain ⟨hl, q1⟩ := if_false q1
  refine ⟨by rw [← ra.length]; exact Nat.le_trans hl (by decide), fun p hp => ?_⟩
  have hn := New.upd (o := HO.tup vs) hp
  exact ⟨g1, .val (.tup ds), env1, S1, st1.trans (hn.stp R1.sto.tr), R1.new hn, Rep.tup upd_same (ra.mono (Fz.new hn R1.sto.tr)), q1⟩
theorem ve_lst {W : WA} (h : VA X B g0 es W) : VE X B g0 (.List es pos) (wLst W) := by
  refine VE.of (fun _ _ _ _ i q => h.mono _ _ _ _ (fun _ _ _ q => if_mono (i _ _ _) q) q) (pe_lst h.pa) fun σ H env S g Q R q => ?_
  refine ⟨env, S, g, _, R, q, fun vs H1 ⟨g1, ds, env1, S1, st1, R1, ra, q1⟩ => ?_⟩
  obtain ⟨hl, q1⟩ := if_false q1
  refine ⟨by rw [← ra.length]; exact Nat.le_trans hl (by decide), fun p hp => ?_⟩
  have hn := New.upd (o := HO.lst vs) hp
  exact ⟨g1, .own (.lst ds), env1, S1, st1.trans (hn.stp R1.sto.tr), R1.new hn, R1.rt hn ⟨p, rfl, ⟨vs, upd_same, ra.mono (Fz.new hn R1.sto.tr)⟩, hp⟩, q1⟩

/-! ### built-in functions and classes -/
inductive ContAll (mg : Str → Option Value) (w : WK) (g : Gh) (H : Hp) : List D → List V → Prop
  | nil : ContAll mg w g H [] []
  | cons {d v ds vs} : Cont mg w g H d v → ContAll mg w g H ds vs → ContAll mg w g H (d :: ds) (v :: vs)
theorem TopAll.cont {mg : Str → Option Value} {w : WK} {g : Gh} {H : Hp} {S : Sto} (R : StoOk mg w g H S) : ∀ {ds : List D} {vs : List V}, TopAll mg w g H ds vs → ContAll mg w g H (ds.map (dr S)) vs
  | _, _, .nil => .nil
  | _, _, .cons h t => .cons (h.cont R) (TopAll.cont R t)
structure OpN (X : Cx) (f : Value) (op : ON) : Prop where
  mono : MoN op
  run : ∀ (pins : List (Addr × Obj)) (s : Shared) (σ : L2.St) (H : Hp) (g : Gh) (ds : List D) (vs : List V) (us : List Value) (K : T → Prop), Inv X pins σ H s → (∀ a, g.F a → ∃ o, H a = some o) → ContAll X.mg X.wk g H ds vs → Vals vs us → op ds K →
    wpAny (model X.prog X.w) X.A (call f us) (EP X pins σ (RK X g H K)) X.xe s
def rN (X : Cx) (op : ON) : List V → Hp → VK → Prop := fun vs H Q => ∃ g ds K, (∀ a, g.F a → ∃ o, H a = some o) ∧ ContAll X.mg X.wk g H ds vs ∧ op ds K ∧ ∀ z H', RK X g H K z H' → Q z H'
theorem OpN.callr {f : Value} {op : ON} (h : OpN X f op) : CallR X f (rN X op) := fun pins s σ H vs us Q I r ⟨g, ds, K, tr, c, q, i⟩ =>
  thn (h.run pins s σ H g ds vs us K I tr c r q) fun _ _ z => EP.mono z i
def wCB (op : ON) (W : WA) : WE := fun env S Q => W env S fun ds env1 S1 => op (ds.map (dr S1)) fun t => Q t env1 S1
theorem cb_imp {op : ON} {W : WA} {σ : L2.St} {H : Hp} {env : VEnv} {S : Sto} {g : Gh} {Q : T → VEnv → Sto → Prop} (R : Rp X.mg X.wk B g0 g H σ env S) (q : wCB op W env S Q) : tCB (rN X op) (tU X B g0 W) σ H (VQ X B g0 g H σ Q) := by
  refine ⟨env, S, g, _, R, q, fun vs H1 ⟨g1, ds, env1, S1, st1, R1, ta, q1⟩ => ?_⟩
  refine ⟨g1, _, _, R1.sto.tr, ta.cont R1.sto, q1, fun z H2 ⟨t, hn, rr, k⟩ => ?_⟩
  exact ⟨g1, t, env1, S1, st1.trans (hn.stp R1.sto.tr), R1.new hn, R1.rt hn rr, k⟩
theorem wCB_mono {op : ON} {W : WA} (mo : MoN op) (m : Mo W) : Mo (wCB op W) := fun _ _ _ _ i q => m _ _ _ _ (fun _ _ _ q => mo _ _ _ (fun _ q => i _ _ _ q) q) q
theorem ve_callB {id : String} {op : ON} {x : Str} {p : Pos} {W : WA} (ho : OpN X (.builtin id) op) (hg : Gl X x) (hm : X.mg x = none) (hv : bootBuiltins x = some (.builtin id)) (ha : VU X B g0 (e :: es) W) (hn : x ≠ "__name__" := by decide) (hdb : (x == ("__debug__" : Str)) = false := by decide)
    (he : starEach (e :: es) X.env = (false, eval e X.env) :: starEach es X.env := by rfl) (hpl : (backTo pos (starEach es X.env)).any (·.1) = false := by rfl) : VE X B g0 (.Call (.Name x p) (e :: es) [] pos) (wCB op W) :=
  VE.of (wCB_mono ho.mono ha.mono) (pe_callB ho.callr hg hm hv ha.pa hn hdb he hpl) fun σ H env S g Q R q => cb_imp R q
theorem ve_callTy {T : String} {op : ON} {x : Str} {p : Pos} {W : WA} (ho : OpN X (.type T) op) (hg : Gl X x) (hm : X.mg x = none) (hv : bootBuiltins x = some (.type T)) (ha : VU X B g0 (e :: es) W) (hn : x ≠ "__name__" := by decide) (hdb : (x == ("__debug__" : Str)) = false := by decide)
    (he : starEach (e :: es) X.env = (false, eval e X.env) :: starEach es X.env := by rfl) (hpl : (backTo pos (starEach es X.env)).any (·.1) = false := by rfl) : VE X B g0 (.Call (.Name x p) (e :: es) [] pos) (wCB op W) :=
  VE.of (wCB_mono ho.mono ha.mono) (pe_callTy ho.callr hg hm hv ha.pa hn hdb he hpl) fun σ H env S g Q R q => cb_imp R q
end
end VC

set_option Elab.async false
set_option linter.all false
set_option maxRecDepth 100000
set_option maxHeartbeats 4000000
/-! VF: statements, loops, the defs' promises. -/
namespace VC
open PySem PySem.Spec PyProof.Rows L2

/-! ### targets -/
abbrev WG := D → VEnv → Sto → WEnd → Prop
section
variable {X : Cx} {B : Hp} {g0 : Gh}
/-- behind a target's store -/
def GQ (X : Cx) (B : Hp) (g0 : Gh) (g : Gh) (H : Hp) (Q : WEnd) : L2.St → Hp → Prop := fun σ' H' => ∃ g' env' S', Stp g H g' H' ∧ Rp X.mg X.wk B g0 g' H' σ' env' S' ∧ Q env' S'
theorem GQ.nq {X : Cx} {B : Hp} {g0 g g1 : Gh} {H H1 H' : Hp} {Q : WEnd} {σ' : L2.St} (z : Fz g H g1 H1) (q : GQ X B g0 g1 H1 Q σ' H') : NQ X B g0 g H Q σ' H' :=
  let ⟨g', env', S', z', R', q⟩ := q; ⟨g', env', S', z.trans z'.toFz, R', q⟩
/-- the same but for some slots -/
def But (is : List Nat) (σ σ' : L2.St) : Prop := σ'.length = σ.length ∧ ∀ j, j ∉ is → σ'[j]? = σ[j]?
/-- a value is stored that is held -/
structure VG (X : Cx) (B : Hp) (g0 : Gh) (is : List Nat) (target : Expr) (G : WG) : Prop where
  mono : ∀ d env S (Q Q' : WEnd), (∀ e s, Q e s → Q' e s) → G d env S Q → G d env S Q'
  pg : PG X target fun v σ H Q => ∃ d env S g Q0, Rp X.mg X.wk B g0 g H σ env S ∧ Rep X.mg X.wk g H d v ∧ G d env S Q0 ∧ ∀ σ' H', But is σ σ' → GQ X B g0 g H Q0 σ' H' → Q σ' H'
theorem Rp.put {mg : Str → Option Value} {w : WK} {g : Gh} {H : Hp} {σ : L2.St} {env : VEnv} {S : Sto} (R : Rp mg w B g0 g H σ env S) (i : Nat) {d : D} {v : V} (r : Rep mg w g H d v) : Rp mg w B g0 g H (σ.set i (some v)) (env.set i (some (.val d))) S := by
  have hl := R.len
  refine ⟨R.sto, by rw [List.length_set, List.length_set]; exact R.len, fun j d' q => ?_, fun j m q => ?_, fun j k m m' a q1 q2 h1 h2 => ?_, R.base, R.fN, R.noTup⟩
  · by_cases hj : i = j
    · subst hj
      have hi : i < env.length := by
        have := (List.getElem?_eq_some_iff.mp q).1
        rwa [List.length_set] at this
      rw [List.getElem?_set_self hi] at q; cases q
      exact ⟨v, List.getElem?_set_self (by omega), r⟩
    · rw [List.getElem?_set_ne hj] at q
      obtain ⟨u, h1, h2⟩ := R.val j d' q
      exact ⟨u, by rw [List.getElem?_set_ne hj]; exact h1, h2⟩
  · by_cases hj : i = j
    · subst hj
      have hi : i < env.length := by
        have := (List.getElem?_eq_some_iff.mp q).1
        rwa [List.length_set] at this
      rw [List.getElem?_set_self hi] at q; cases q
    · rw [List.getElem?_set_ne hj] at q
      obtain ⟨a, h1, h2⟩ := R.own j m q
      exact ⟨a, by rw [List.getElem?_set_ne hj]; exact h1, h2⟩
  · have key : ∀ (j : Nat) (m : M), (env.set i (some (T.val d)))[j]? = some (some (T.own m)) → i ≠ j ∧ env[j]? = some (some (T.own m)) := fun j m q => by
      by_cases hj : i = j
      · subst hj
        by_cases hi : i < env.length
        · rw [List.getElem?_set_self hi] at q; cases q
        · rw [List.getElem?_eq_none (by simpa using hi)] at q; cases q
      · rw [List.getElem?_set_ne hj] at q; exact ⟨hj, q⟩
    obtain ⟨n1, e1⟩ := key j m q1
    obtain ⟨n2, e2⟩ := key k m' q2
    rw [List.getElem?_set_ne n1] at h1
    rw [List.getElem?_set_ne n2] at h2
    exact R.inj j k m m' a e1 e2 h1 h2
/-- a fresh object is stored -/
theorem Rp.putOwn {mg : Str → Option Value} {w : WK} {g : Gh} {H : Hp} {σ : L2.St} {env : VEnv} {S : Sto} (R : Rp mg w B g0 g H σ env S) (i : Nat) {t : T} {v : V} (r : RT mg w B g H σ env t v) : Rp mg w B g0 g H (σ.set i (some v)) (env.set i (some t)) S := by
  cases t with
  | val d => exact R.put i r
  | own mm =>
    obtain ⟨a0, rfl, r1, r2, r3, r4, r5⟩ := r
    have hl := R.len
    have key : ∀ (j : Nat) (t : T), i ≠ j → (env.set i (some (T.own mm)))[j]? = some (some t) → env[j]? = some (some t) := fun j t hj q => by
      rw [List.getElem?_set_ne hj] at q; exact q
    have hlen : ∀ (j : Nat) (t : T), (env.set i (some (T.own mm)))[j]? = some (some t) → j < env.length := fun j t q => by
      have := (List.getElem?_eq_some_iff.mp q).1
      rwa [List.length_set] at this
    refine ⟨R.sto, by rw [List.length_set, List.length_set]; exact R.len, fun j d' q => ?_, fun j m q => ?_, fun j k m m' a q1 q2 h1 h2 => ?_, R.base, R.fN, R.noTup⟩
    · by_cases hj : i = j
      · subst hj
        rw [List.getElem?_set_self (hlen _ _ q)] at q; cases q
      · obtain ⟨u, h1, h2⟩ := R.val j d' (key j _ hj q)
        exact ⟨u, by rw [List.getElem?_set_ne hj]; exact h1, h2⟩
    · by_cases hj : i = j
      · subst hj
        have hi := hlen _ _ q
        rw [List.getElem?_set_self hi] at q; cases q
        exact ⟨a0, List.getElem?_set_self (by omega), r1, r2, r3, r4⟩
      · obtain ⟨a, h1, h2⟩ := R.own j m (key j _ hj q)
        exact ⟨a, by rw [List.getElem?_set_ne hj]; exact h1, h2⟩
    · by_cases hj : i = j
      · subst hj
        by_cases hk : i = k
        · exact hk
        · rw [List.getElem?_set_self (by have := hlen _ _ q1; omega)] at h1
          rw [List.getElem?_set_ne hk] at h2
          cases h1
          exact absurd h2 (r5 k m' (key k _ hk q2))
      · by_cases hk : i = k
        · subst hk
          rw [List.getElem?_set_self (by have := hlen _ _ q2; omega)] at h2
          rw [List.getElem?_set_ne hj] at h1
          cases h2
          exact absurd h1 (r5 j m (key j _ hj q1))
        · rw [List.getElem?_set_ne hj] at h1
          rw [List.getElem?_set_ne hk] at h2
          exact R.inj j k m m' a (key j _ hj q1) (key k _ hk q2) h1 h2
def gN (i : Nat) : WG := fun d env S Q => Q (env.set i (some (.val d))) S
theorem vg_name {i : Nat} {e : Expr} (h : PG X e (gName i)) : VG X B g0 [i] e (gN i) :=
  ⟨fun _ _ _ _ _ i q => i _ _ q, ⟨fun pins s σ H v u Q I r ⟨d, env, S, g, Q0, R, rp, q, k⟩ => h.run pins s σ H v u Q I r (k _ _ ⟨by rw [List.length_set], fun j hj => List.getElem?_set_ne (fun z => hj (by simp [z]))⟩ ⟨g, _, S, Stp.refl g H, R.put i rp, q⟩)⟩⟩
abbrev WGs := List D → VEnv → Sto → WEnd → Prop
structure VGs (X : Cx) (B : Hp) (g0 : Gh) (is : List Nat) (ts : List Expr) (G : WGs) : Prop where
  mono : ∀ d env S (Q Q' : WEnd), (∀ e s, Q e s → Q' e s) → G d env S Q → G d env S Q'
  pgs : PGs X ts fun vs σ H Q => ∃ ds env S g Q0, Rp X.mg X.wk B g0 g H σ env S ∧ RepAll X.mg X.wk g H ds vs ∧ G ds env S Q0 ∧ ∀ σ' H', But is σ σ' → GQ X B g0 g H Q0 σ' H' → Q σ' H'
def gNl : WGs
  | [], env, S, Q => Q env S
  | _ :: _, _, _, _ => False
def gCs (G : WG) (Gs : WGs) : WGs
  | [], _, _, _ => False
  | d :: ds, env, S, Q => G d env S fun env' S' => Gs ds env' S' Q
theorem vgs_nil : VGs X B g0 [] [] gNl := by
  refine ⟨fun d env S Q Q' i q => ?_, ⟨fun pins s σ H vs us Q I r ⟨ds, env, S, g, Q0, R, rp, q, k⟩ => ?_⟩⟩
  · cases d with
    | nil => exact i _ _ q
    | cons _ _ => exact q
  · cases rp with
    | nil => exact pgs_nil.run pins s σ H [] us Q I r ⟨rfl, k _ _ ⟨rfl, fun _ _ => rfl⟩ ⟨g, env, S, Stp.refl g H, R, q⟩⟩
    | cons _ _ => exact q.elim
theorem vgs_cons {e : Expr} {es : List Expr} {i1 i2 : List Nat} {G : WG} {Gs : WGs} (h1 : VG X B g0 i1 e G) (h2 : VGs X B g0 i2 es Gs) (hs : (assignEach (e :: es) X.env).map (·.2) = assign e X.env :: (assignEach es X.env).map (·.2) := by rfl) : VGs X B g0 (i1 ++ i2) (e :: es) (gCs G Gs) := by
  refine ⟨fun d env S Q Q' i q => ?_, ⟨fun pins s σ H vs us Q I r ⟨ds, env, S, g, Q0, R, rp, q, k⟩ => ?_⟩⟩
  · cases d with
    | nil => exact q
    | cons _ _ => exact h1.mono _ _ _ _ _ (fun _ _ q => h2.mono _ _ _ _ _ i q) q
  · cases rp with
    | nil => exact q.elim
    | @cons d v ds vs r1 r2 =>
      refine (pgs_cons h1.pg h2.pgs hs).run pins s σ H _ us Q I r ⟨v, vs, rfl, d, env, S, g, _, R, r1, q, fun σ1 H1 b1 ⟨g1, env1, S1, z1, R1, q1⟩ => ?_⟩
      exact ⟨ds, env1, S1, g1, Q0, R1, r2.mono z1.toFz, q1, fun σ2 H2 b2 ⟨g2, env2, S2, z2, R2, q2⟩ => k _ _ ⟨b2.1.trans b1.1, fun j hj => (b2.2 j fun z => hj (List.mem_append_right _ z)).trans (b1.2 j fun z => hj (List.mem_append_left _ z))⟩ ⟨g2, env2, S2, z1.trans z2, R2, q2⟩⟩
/-- a tuple's items to several targets -/
def gT (Gs : WGs) : WG
  | .tup ds, env, S, Q => Gs ds env S Q
  | _, _, _, _ => False
theorem vg_tup {es : List Expr} {k : Nat} {pos : Pos} {is : List Nat} {Gs : WGs} {n : Nat} (hc : X.calm = true) (h : VGs X B g0 is es Gs) (hd : ∀ ds env S Q, Gs ds env S Q → ds.length = n)
    (hn : (assignEach es X.env).length = n := by rfl) (hst : (assignEach es X.env).findIdx? (·.1) = none := by rfl) : VG X B g0 is (.Tuple es k pos) (gT Gs) := by
  refine ⟨fun d env S Q Q' i q => ?_, ⟨fun pins s σ H v u Q I r ⟨d, env, S, g, Q0, R, rp, q, k⟩ => ?_⟩⟩
  · unfold gT at q ⊢
    split at q <;> first | exact h.mono _ _ _ _ _ i q | exact q
  · unfold gT at q
    split at q
    · cases rp with
      | @tup a vs ds h1 h2 => exact (pg_tup hc h.pgs hn hst).run pins s σ H _ u Q I r ⟨a, vs, rfl, SqT.at h1, by rw [← h2.length]; exact hd _ _ _ _ q, _, env, S, g, Q0, R, h2, q, k⟩
    · exact q.elim
theorem len_nl : ∀ ds env S Q, gNl ds env S Q → ds.length = 0 := fun ds _ _ _ q => by
  cases ds with
  | nil => rfl
  | cons _ _ => exact q.elim

/-! ### statements -/
variable {e a b c : Expr} {st : Stmt} {rest body orelse : List Stmt} {pos : Pos} {W W1 W2 : WS} {We : WE}
def wNil : WS := fun D env S => D.nx env S
def wSeq (W1 W2 : WS) : WS := fun D env S => W1 { D with nx := fun e s => W2 D e s } env S
theorem MoS.seq (h1 : MoS W1) (h2 : MoS W2) : MoS (wSeq W1 W2) := fun env S D D' i q => h1 env S { D with nx := fun e s => W2 D e s } { D' with nx := fun e s => W2 D' e s } ⟨fun e s q => h2 e s D D' i q, i.rt, i.bk, i.ct⟩ q
theorem NQ.fz {g g1 : Gh} {H H1 H' : Hp} {Q : WEnd} {σ' : L2.St} (z : Fz g H g1 H1) (q : NQ X B g0 g1 H1 Q σ' H') : NQ X B g0 g H Q σ' H' :=
  let ⟨g', env', S', z', R', q⟩ := q; ⟨g', env', S', z.trans z', R', q⟩
theorem vss_nil : VSs X B g0 [] wNil := VSs.of (fun _ _ _ _ i q => i.nx _ _ q) pss_nil fun σ H env S g De R q => ⟨g, env, S, Fz.refl g H, R, q⟩
theorem vss_cons (h1 : VS X B g0 st W1) (h2 : VSs X B g0 rest W2) : VSs X B g0 (st :: rest) (wSeq W1 W2) := by
  refine VSs.of (h1.mono.seq h2.mono) (pss_cons h1.ps h2.ps) fun σ H env S g De R q => ?_
  refine ⟨env, S, g, _, R, q, ⟨fun σ' H' ⟨g1, env1, S1, z1, R1, q1⟩ => ?_, fun _ _ q => q, fun _ _ q => q, fun _ _ q => q⟩⟩
  exact ⟨env1, S1, g1, De, R1, q1, ⟨fun _ _ q => NQ.fz z1 q, fun _ _ q => q, fun _ _ q => NQ.fz z1 q, fun _ _ q => NQ.fz z1 q⟩⟩
theorem vss_one (h1 : VS X B g0 st W1) : VSs X B g0 [st] W1 := ⟨h1.mono, pss_one h1.ps⟩
def wBrk : WS := fun D env S => D.bk env S
def wCnt : WS := fun D env S => D.ct env S
theorem vs_pass : VS X B g0 (.Pass pos) wNil := VS.of (fun _ _ _ _ i q => i.nx _ _ q) ps_pass fun σ H env S g De R q => ⟨g, env, S, Fz.refl g H, R, q⟩
theorem vs_break : VS X B g0 (.Break pos) wBrk := VS.of (fun _ _ _ _ i q => i.bk _ _ q) ps_break fun σ H env S g De R q => ⟨g, env, S, Fz.refl g H, R, q⟩
theorem vs_cont : VS X B g0 (.Continue pos) wCnt := VS.of (fun _ _ _ _ i q => i.ct _ _ q) ps_continue fun σ H env S g De R q => ⟨g, env, S, Fz.refl g H, R, q⟩
def wNev : WS := fun _ _ _ => False
theorem vs_never : VS X B g0 st wNev := VS.of (fun _ _ _ _ _ q => q) ps_never fun _ _ _ _ _ _ _ q => q
def wRet (We : WE) : WS := fun D env S => We env S fun t _ S' => D.rt t S'
theorem vs_ret (h : VE X B g0 e We) : VS X B g0 (.Return (some e) pos) (wRet We) :=
  VS.of (fun _ _ _ _ i q => h.mono _ _ _ _ (fun _ _ _ => i.rt _ _) q) (ps_ret h.pe) fun σ H env S g De R q => ⟨env, S, g, _, R, q, fun v H' ⟨g', t, env', S', st, R', rt, q⟩ => ⟨g', t, σ, env', S', R', rt, q⟩⟩
def wRetN : WS := fun D _ S => D.rt (.val .non) S
theorem vs_retN : VS X B g0 (.Return none pos) wRetN :=
  VS.of (fun _ _ _ _ i q => i.rt _ _ q) ps_retN fun σ H env S g De R q => ⟨g, .val .non, σ, env, S, R, Rep.non, q⟩
def wDrop (We : WE) : WS := fun D env S => We env S fun _ env' S' => D.nx env' S'
theorem vs_expr (h : VE X B g0 e We) (hs : swapsWith e none pos.line X.env = pure false := by rfl) : VS X B g0 (.Expr e pos) (wDrop We) :=
  VS.of (fun _ _ _ _ i q => h.mono _ _ _ _ (fun _ _ _ => i.nx _ _) q) (ps_expr h.pe hs) fun σ H env S g De R q => ⟨env, S, g, _, R, q, fun v H' ⟨g', t, env', S', st, R', rt, q⟩ => ⟨g', env', S', st.toFz, R', q⟩⟩
/-- x = e -/
def wSet (i : Nat) (We : WE) : WS := fun D env S => We env S fun t env' S' => D.nx (env'.set i (some t)) S'
theorem vs_set {i : Nat} {x : Str} {pos' : Pos} (h : VE X B g0 e We) (hp : ∀ te, PE X e te → PS X (.Assign [.Name x pos'] e pos) (tAsg te (gName i))) : VS X B g0 (.Assign [.Name x pos'] e pos) (wSet i We) :=
  VS.of (fun _ _ _ _ k q => h.mono _ _ _ _ (fun _ _ _ => k.nx _ _) q) (hp _ h.pe) fun σ H env S g De R q => ⟨env, S, g, _, R, q, fun v H' ⟨g', t, env', S', st, R', rt, q⟩ => ⟨g', _, S', st.toFz, R'.putOwn i rt, q⟩⟩
/-- target = e: the value is held -/
def wAsg (We : WE) (G : WG) : WS := fun D env S => We env S fun t env' S' => G t.d env' S' D.nx
theorem vs_asg {tg : Expr} {is : List Nat} {G : WG} (h : VE X B g0 e We) (hg : VG X B g0 is tg G) (hs : swapsWithSole [tg] e pos.line X.env = pure false := by rfl) (hw : swappedStores [tg] e X.env = pure none := by rfl)
    (h1 : (assignEach [tg] X.env).map (·.2) = [assign tg X.env] := by rfl) : VS X B g0 (.Assign [tg] e pos) (wAsg We G) := by
  refine VS.of (fun _ _ _ _ k q => h.mono _ _ _ _ (fun _ _ _ q => hg.mono _ _ _ _ _ k.nx q) q) (ps_asg h.pe hg.pg hs hw h1) fun σ H env S g De R q => ?_
  refine ⟨env, S, g, _, R, q, fun v H' ⟨g1, t, env1, S1, st1, R1, rt, q1⟩ => ?_⟩
  obtain ⟨g2, st2, R2, rp⟩ := rt.hold R1
  exact ⟨t.d, env1, S1, g2, _, R2, rp, q1, fun _ _ _ q => GQ.nq (st1.trans st2).toFz q⟩
def wIfS (Wt : WT) (W1 W2 : WS) : WS := fun D env S => Wt env S fun c env' S' => Ite c (W1 D env' S') (W2 D env' S')
theorem SQ.fz {g g1 : Gh} {H H1 : Hp} {De : WEnds} (z : Fz g H g1 H1) : SQ X B g0 g1 H1 De (ends X B g0 g H De) := ⟨fun _ _ q => NQ.fz z q, fun _ _ q => q, fun _ _ q => NQ.fz z q, fun _ _ q => NQ.fz z q⟩
theorem vs_if {Wt : WT} (hc : VT X B g0 c Wt) (ha : VSs X B g0 body W1) (hb : VSs X B g0 orelse W2) : VS X B g0 (.If c body orelse pos) (wIfS Wt W1 W2) := by
  refine VS.of (fun _ _ _ _ k q => hc.mono _ _ _ _ (fun c _ _ q => ?_) q) (ps_if hc.pt ha.ps hb.ps) fun σ H env S g De R q => ?_
  · exact q.mono (ha.mono _ _ _ _ k) (hb.mono _ _ _ _ k)
  · refine ⟨env, S, g, _, R, q, fun k H' ⟨g1, env1, S1, st, R1, q1⟩ => ?_⟩
    cases k with
    | true => exact ⟨env1, S1, g1, De, R1, q1.t, SQ.fz st.toFz⟩
    | false => exact ⟨env1, S1, g1, De, R1, q1.f, SQ.fz st.toFz⟩
/-- .. the ways out behind a raise are none -/
theorem VSs.nox {st : List Stmt} (h : VSs X.nox B g0 st W) : VSs X B g0 st W :=
  ⟨h.mono, ⟨fun pins s σ H D I ⟨env, S, g, De, R, q, i⟩ => h.ps.nox.run pins s σ H D I ⟨env, S, g, De, R, q, ⟨i.nx, i.rt, i.bk, i.ct⟩⟩⟩⟩
/-- a, b = e1, e2: plain local names, stored from the right -/
def wPar (i j : Nat) (W : WA) : WS := fun D env S => W env S fun ds env' S' => match ds with
  | [d, f] => D.nx ((env'.set i (some (.val d))).set j (some (.val f))) S'
  | _ => False
theorem vs_par {i j : Nat} {x y : Str} {px py pt pt2 : Pos} {kt k2 : Nat} {Wa : WA} (h : VA X B g0 [a, b] Wa) (hp : ∀ ta, PA X [a, b] ta → PS X (.Assign [.Tuple [.Name x px, .Name y py] kt pt] (.Tuple [a, b] k2 pt2) pos) (tPar i j ta)) :
    VS X B g0 (.Assign [.Tuple [.Name x px, .Name y py] kt pt] (.Tuple [a, b] k2 pt2) pos) (wPar i j Wa) := by
  refine VS.of (fun _ _ _ _ k q => h.mono _ _ _ _ (fun ds _ _ q => ?_) q) (hp _ h.pa) fun σ H env S g De R q => ?_
  · split at q <;> first | exact k.nx _ _ q | exact q.elim
  · refine ⟨env, S, g, _, R, q, fun vs H1 ⟨g1, ds, env1, S1, st1, R1, ra, q1⟩ => ?_⟩
    dsimp only at q1
    split at q1
    · cases ra with
      | cons r1 ra =>
        cases ra with
        | cons r2 ra =>
          cases ra
          exact ⟨_, _, rfl, g1, _, S1, st1.toFz, (R1.put i r1).put j r2, q1⟩
    · exact q1.elim
def wPar3 (i j l : Nat) (W : WA) : WS := fun D env S => W env S fun ds env' S' => match ds with
  | [d, f, h] => D.nx (((env'.set i (some (.val d))).set j (some (.val f))).set l (some (.val h))) S'
  | _ => False
theorem vs_par3 {i j l : Nat} {x y z : Str} {px py pz pt pt2 : Pos} {kt k2 : Nat} {Wa : WA} (h : VA X B g0 [a, b, c] Wa) (hp : ∀ ta, PA X [a, b, c] ta → PS X (.Assign [.Tuple [.Name x px, .Name y py, .Name z pz] kt pt] (.Tuple [a, b, c] k2 pt2) pos) (tPar3 i j l ta)) :
    VS X B g0 (.Assign [.Tuple [.Name x px, .Name y py, .Name z pz] kt pt] (.Tuple [a, b, c] k2 pt2) pos) (wPar3 i j l Wa) := by
  refine VS.of (fun _ _ _ _ k q => h.mono _ _ _ _ (fun ds _ _ q => ?_) q) (hp _ h.pa) fun σ H env S g De R q => ?_
  · split at q <;> first | exact k.nx _ _ q | exact q.elim
  · refine ⟨env, S, g, _, R, q, fun vs H1 ⟨g1, ds, env1, S1, st1, R1, ra, q1⟩ => ?_⟩
    dsimp only at q1
    split at q1
    · cases ra with
      | cons r1 ra =>
        cases ra with
        | cons r2 ra =>
          cases ra with
          | cons r3 ra =>
            cases ra
            exact ⟨_, _, _, rfl, g1, _, S1, st1.toFz, ((R1.put i r1).put j r2).put l r3, q1⟩
    · exact q1.elim

/-! ### while -/
def wWhile (Wt : WT) (W : WS) : WS := fun D env S => ∃ P : Nat → VEnv → Sto → Prop, (∃ m, P m env S) ∧ ∀ m env S, P m env S →
  Wt env S fun c env1 S1 => Ite c (W { D with nx := fun e s => ∃ m', m' < m ∧ P m' e s, ct := fun e s => ∃ m', m' < m ∧ P m' e s, bk := D.nx } env1 S1) (D.nx env1 S1)
theorem vs_while {Wt : WT} (hp : PassesOwn (model X.prog X.w) X.A X.env X.xe) (hc : VT X B g0 c Wt) (hb : VSs X B g0 body W) : VS X B g0 (.While c body [] pos) (wWhile Wt W) := by
  refine VS.of (fun _ _ _ _ k q => ?_) (ps_while hp hc.pt hb.ps) fun σ H env S g De R q => ?_
  · obtain ⟨P, h0, hs⟩ := q
    refine ⟨P, h0, fun m env S p => hc.mono _ _ _ _ (fun c _ _ q => ?_) (hs m env S p)⟩
    refine Ite.mono (fun q => hb.mono _ _ _ _ ?_ q) (k.nx _ _) q
    exact ⟨fun _ _ q => q, k.rt, k.nx, fun _ _ q => q⟩
  · obtain ⟨P, ⟨m0, h0⟩, hs⟩ := q
    refine ⟨fun m σ' H' => ∃ g' env' S', Fz g H g' H' ∧ Rp X.mg X.wk B g0 g' H' σ' env' S' ∧ P m env' S', ⟨m0, g, env, S, Fz.refl g H, R, h0⟩, ?_⟩
    rintro m σ1 H1 ⟨g1, env1, S1, z1, R1, p1⟩
    refine ⟨env1, S1, g1, _, R1, hs m env1 S1 p1, fun k H2 ⟨g2, env2, S2, st2, R2, q2⟩ => ?_⟩
    cases k with
    | false => exact ⟨g2, env2, S2, z1.trans st2.toFz, R2, q2.f⟩
    | true =>
      refine ⟨fun σ' H' => ∃ m', m' < m ∧ ∃ g' env' S', Fz g H g' H' ∧ Rp X.mg X.wk B g0 g' H' σ' env' S' ∧ P m' env' S', fun σ' H' q => q, ?_⟩
      have z2 := z1.trans st2.toFz
      refine ⟨env2, S2, g2, _, R2, q2.t, ⟨fun σ' H' ⟨g3, env3, S3, z3, R3, m', hm, p3⟩ => ⟨m', hm, g3, env3, S3, z2.trans z3, R3, p3⟩, fun _ _ q => q, fun σ' H' q => NQ.fz z2 q, fun σ' H' ⟨g3, env3, S3, z3, R3, m', hm, p3⟩ => ⟨m', hm, g3, env3, S3, z2.trans z3, R3, p3⟩⟩⟩
end

/-! ### what is walked -/
/-- J yields the items, each held, whatever the loop does meanwhile -/
def JOk (mg : Str → Option Value) (w : WK) (g : Gh) (H : Hp) (J : It) (items : List D) : Prop := ∀ g' H', Fz g H g' H' → (∀ a, g'.F a → ∃ o, H' a = some o) → ∀ i : Nat,
  (∀ d, items[i]? = some d → J.go i H' ∧ ∀ x H2, J.yld i H' x H2 → New H' H2 ∧ Rep mg w g' H2 d x) ∧ (i = items.length → J.stop i H')
def tI (X : Cx) (B : Hp) (g0 : Gh) (W : WA) : TI := fun σ H R => ∃ env S g Q0, Rp X.mg X.wk B g0 g H σ env S ∧ W env S Q0 ∧ ∀ J H' g' items env' S', Stp g H g' H' → Rp X.mg X.wk B g0 g' H' σ env' S' → JOk X.mg X.wk g' H' J items → Q0 items env' S' → R J H'
structure VI (X : Cx) (B : Hp) (g0 : Gh) (tg iter : Expr) (W : WA) : Prop where
  mono : Mo W
  pi : PI X tg iter (tI X B g0 W)
theorem VI.of {X : Cx} {B : Hp} {g0 : Gh} {tg iter : Expr} {W : WA} {wi : TI} (m : Mo W) (h : PI X tg iter wi)
    (imp : ∀ σ H env S g Q, Rp X.mg X.wk B g0 g H σ env S → W env S Q → wi σ H fun J H' => ∃ g' items env' S', Stp g H g' H' ∧ Rp X.mg X.wk B g0 g' H' σ env' S' ∧ JOk X.mg X.wk g' H' J items ∧ Q items env' S') : VI X B g0 tg iter W := by
  refine ⟨m, ⟨fun pins s σ H R I ⟨env, S, g, Q0, Rr, q, k⟩ => thn (h.run pins s σ H _ I (imp σ H env S g Q0 Rr q)) fun v s1 h1 => thn h1 fun u s2 z => ?_⟩⟩
  obtain ⟨it, fp, tn, J, H', e, I', T, h0, hf, g', items, env', S', st, R', jok, q⟩ := z
  exact ⟨it, fp, tn, J, H', e, I', T, h0, hf, k J H' g' items env' S' st R' jok q⟩
section
variable {X : Cx} {B : Hp} {g0 : Gh} {tg e a b : Expr} {pos : Pos}
/-- the items of a list or tuple -/
def dItems : D → (List D → Prop) → Prop
  | .tup ds, K => K ds
  | .lst ds, K => K ds
  | _, _ => False
theorem dItems_mono {d : D} {K K' : List D → Prop} (i : ∀ ds, K ds → K' ds) (q : dItems d K) : dItems d K' := by
  unfold dItems at q ⊢
  split at q <;> first | exact i _ q | exact q
theorem jok_tup {g : Gh} {H : Hp} {a : Addr} {vs : List V} {ds : List D} {K : PySem.W.Frag} {mg : Str → Option Value} {w : WK} (h : H a = some (.tup vs)) (r : RepAll mg w g H ds vs) : JOk mg w g H (Itt K a) ds := by
  intro g' H' z tr i
  have h' := z.tup a vs h
  have r' := r.mono z
  refine ⟨fun d hd => ?_, fun hl => ⟨vs, SqT.at h', by rw [← r.length]; omega⟩⟩
  obtain ⟨v, hv, rv⟩ := r'.get hd
  refine ⟨⟨vs, v, SqT.at h', hv⟩, fun x H2 ⟨e, y⟩ => ?_⟩
  subst e
  have := y vs (SqT.at h')
  rw [hv] at this; cases this
  exact ⟨New.refl _, rv⟩
theorem jok_lst {g : Gh} {H : Hp} {a : Addr} {vs : List V} {ds : List D} {K : PySem.W.Frag} {mg : Str → Option Value} {w : WK} (hF : g.F a) (h : Rd H a (.lst vs)) (r : RepAll mg w g H ds vs) : JOk mg w g H (Itl K a) ds := by
  intro g' H' z tr i
  have h' := z.rd hF h
  have r' := r.mono z
  have hs : SqL K H' a vs := .inl h'
  refine ⟨fun d hd => ?_, fun hl => ⟨vs, hs, by rw [← r.length]; omega⟩⟩
  obtain ⟨v, hv, rv⟩ := r'.get hd
  refine ⟨⟨vs, v, hs, hv⟩, fun x H2 ⟨e, y⟩ => ?_⟩
  subst e
  have := y vs hs
  rw [hv] at this; cases this
  exact ⟨New.refl _, rv⟩
/-- walked: a tuple -/
def iT (W : WE) : WA := fun env S Q => W env S fun t env' S' => match t with
  | .val (.tup ds) => Q ds env' S'
  | _ => False
theorem iT_mono {W : WE} (m : Mo W) : Mo (iT W) := fun _ _ _ _ i q => m _ _ _ _ (fun t _ _ q => by
  split at q <;> first | exact i _ _ _ q | exact q.elim) q
theorem vi_tup {W : WE} (h : VE X B g0 e W) : VI X B g0 tg e (iT W) := by
  refine VI.of (iT_mono h.mono) (pi_tup h.pe) fun σ H env S g Q R q => ?_
  refine ⟨env, S, g, _, R, q, fun v H1 ⟨g1, t, env1, S1, st1, R1, rt, q1⟩ => ?_⟩
  dsimp only at q1
  split at q1
  · cases rt with
    | @tup a vs ds h1 h2 => exact ⟨a, rfl, ⟨vs, SqT.at h1⟩, g1, _, env1, S1, st1, R1, jok_tup h1 h2, q1⟩
  · exact q1.elim
/-- walked: a list, held from then on -/
def iL (W : WE) : WA := fun env S Q => W env S fun t env' S' => match t.d with
  | .lst ds => Q ds env' S'
  | _ => False
theorem iL_mono {W : WE} (m : Mo W) : Mo (iL W) := fun _ _ _ _ i q => m _ _ _ _ (fun t _ _ q => by
  split at q <;> first | exact i _ _ _ q | exact q.elim) q
theorem vi_lst {W : WE} (h : VE X B g0 e W) : VI X B g0 tg e (iL W) := by
  refine VI.of (iL_mono h.mono) (pi_list h.pe) fun σ H env S g Q R q => ?_
  refine ⟨env, S, g, _, R, q, fun v H1 ⟨g1, t, env1, S1, st1, R1, rt, q1⟩ => ?_⟩
  obtain ⟨g2, st2, R2, rp⟩ := rt.hold R1
  dsimp only at q1
  split at q1
  · rename_i ds e
    rw [e] at rp
    cases rp with
    | @lst a vs ds h0 h1 h2 => exact ⟨a, rfl, ⟨vs, .inl h1⟩, g2, _, env1, S1, st1.trans st2, R2, jok_lst h0 h1 h2, q1⟩
  · exact q1.elim
/-- walked: range(n), range(a, b) -/
@[irreducible] def rngD (lo : Int) (n : Nat) : List D := (List.range n).map fun (i : Nat) => .int (lo + (i : Int))
theorem jok_rng {g : Gh} {H : Hp} {lo : Int} {n : Nat} {mg : Str → Option Value} {w : WK} : JOk mg w g H (Itr lo n) (rngD lo n) := by
  intro g' H' z tr i
  refine ⟨fun d hd => ?_, fun hl => by show n ≤ i; rw [hl]; simp [rngD]⟩
  have hi : i < n := by
    have := (List.getElem?_eq_some_iff.mp hd).1
    simpa [rngD] using this
  refine ⟨hi, fun x H2 ⟨e, y⟩ => ?_⟩
  subst e; subst y
  have : d = .int (lo + (i : Int)) := by
    unfold rngD at hd
    rw [List.getElem?_map, List.getElem?_range hi] at hd
    simpa using hd.symm
  subst this
  exact ⟨New.refl _, .int _⟩
def iR1 (W : WA) : WA := fun env S Q => W env S fun ds env' S' => match ds with
  | [.int j] => (-(2 ^ 62) ≤ j ∧ j < 2 ^ 62) ∧ Q (rngD 0 j.toNat) env' S'
  | _ => False
def iR2 (W : WA) : WA := fun env S Q => W env S fun ds env' S' => match ds with
  | [.int i, .int j] => (-(2 ^ 62) ≤ i ∧ i < 2 ^ 62 ∧ -(2 ^ 62) ≤ j ∧ j < 2 ^ 62) ∧ Q (rngD i (j - i).toNat) env' S'
  | _ => False
theorem vi_range1 {W : WA} {p : Pos} (hg : Gl X "range") (hm : X.mg "range" = none) (h : VA X B g0 [a] W) (hs : starEach [a] X.env = [(false, eval a X.env)] := by rfl) : VI X B g0 tg (.Call (.Name "range" p) [a] [] pos) (iR1 W) := by
  refine VI.of (fun _ _ _ _ i q => h.mono _ _ _ _ (fun ds _ _ q => ?_) q) (pi_range1 hg hm h.pa hs) fun σ H env S g Q R q => ?_
  · split at q
    · exact if_mono (i _ _ _) q
    · exact q.elim
  · refine ⟨env, S, g, _, R, q, fun vs H1 ⟨g1, ds, env1, S1, st1, R1, ra, q1⟩ => ?_⟩
    dsimp only at q1
    split at q1
    · obtain ⟨⟨h1, h2⟩, q1⟩ := if_false q1
      cases ra with
      | cons r ra =>
        cases ra; cases r
        exact ⟨_, rfl, h1, h2, g1, _, env1, S1, st1, R1, jok_rng, q1⟩
    · exact q1.elim
theorem vi_range2 {W : WA} {p : Pos} (hg : Gl X "range") (hm : X.mg "range" = none) (h : VA X B g0 [a, b] W) (hs : starEach [a, b] X.env = [(false, eval a X.env), (false, eval b X.env)] := by rfl) (hs2 : starEach [b] X.env = [(false, eval b X.env)] := by rfl) : VI X B g0 tg (.Call (.Name "range" p) [a, b] [] pos) (iR2 W) := by
  refine VI.of (fun _ _ _ _ i q => h.mono _ _ _ _ (fun ds _ _ q => ?_) q) (pi_range2 hg hm h.pa hs hs2) fun σ H env S g Q R q => ?_
  · split at q
    · exact if_mono (i _ _ _) q
    · exact q.elim
  · refine ⟨env, S, g, _, R, q, fun vs H1 ⟨g1, ds, env1, S1, st1, R1, ra, q1⟩ => ?_⟩
    dsimp only at q1
    split at q1
    · obtain ⟨hh, q1⟩ := if_false q1
      cases ra with
      | cons r ra =>
        cases ra with
        | cons r' ra =>
          cases ra; cases r; cases r'
          exact ⟨_, _, rfl, hh, g1, _, env1, S1, st1, R1, jok_rng, q1⟩
    · exact q1.elim

/-! ### for -/
def forW (G : WG) (W : WS) (D : WEnds) : List VC.D → WEnd
  | [] => D.nx
  | d :: ds => fun env S => G d env S fun env' S' => W { D with nx := forW G W D ds, ct := forW G W D ds, bk := D.nx } env' S'
def wFor (Wi : WA) (G : WG) (W : WS) : WS := fun D env S => Wi env S fun items env' S' => forW G W D items env' S'
theorem forW_mono {G : WG} {W : WS} {D D' : WEnds} (mg : ∀ d env S (Q Q' : WEnd), (∀ e s, Q e s → Q' e s) → G d env S Q → G d env S Q') (mw : MoS W) (k : WEnds.Le D D') : ∀ items env S, forW G W D items env S → forW G W D' items env S
  | [], _, _, q => k.nx _ _ q
  | d :: ds, _, _, q => mg _ _ _ _ _ (fun _ _ q => by
    refine mw _ _ _ _ ?_ q
    exact ⟨forW_mono mg mw k ds, k.rt, k.nx, forW_mono mg mw k ds⟩) q
theorem vs_for {iter : Expr} {body : List Stmt} {is : List Nat} {Wi : WA} {G : WG} {W : WS} (hp : PassesOwn (model X.prog X.w) X.A X.env X.xe) (hc : X.calm = true) (hi : VI X B g0 tg iter Wi) (hg : VG X B g0 is tg G) (hb : VSs X B g0 body W)
    (hs : ∀ x, foldedSetIterable iter X.env x = pure x := by intro _; rfl) : VS X B g0 (.For tg iter body [] pos) (wFor Wi G W) := by
  refine VS.of (fun _ _ _ _ k q => hi.mono _ _ _ _ (fun _ _ _ q => forW_mono hg.mono hb.mono k _ _ _ q) q) (ps_for hp hc hi.pi hg.pg hb.ps hs) fun σ H env S g De R q => ?_
  refine ⟨env, S, g, _, R, q, fun J H1 g1 items env1 S1 st1 R1 jok q1 => ?_⟩
  refine ⟨fun i m σ' H' => m = items.length - i ∧ i ≤ items.length ∧ ∃ g' env' S', Fz g1 H1 g' H' ∧ Rp X.mg X.wk B g0 g' H' σ' env' S' ∧ forW G W De (items.drop i) env' S', ⟨items.length, by simp, Nat.zero_le _, g1, env1, S1, Fz.refl _ _, R1, by simpa using q1⟩, ?_⟩
  rintro i m σ2 H2 ⟨rfl, hi, g2, env2, S2, z2, R2, q2⟩
  by_cases hlt : i < items.length
  · obtain ⟨hgo, hy⟩ := (jok g2 H2 z2 R2.sto.tr i).1 _ (List.getElem?_eq_getElem hlt)
    refine .inr ⟨hgo, fun σ' H' => i + 1 ≤ items.length ∧ ∃ g' env' S', Fz g1 H1 g' H' ∧ Rp X.mg X.wk B g0 g' H' σ' env' S' ∧ forW G W De (items.drop (i + 1)) env' S', fun σ' H' q => ⟨items.length - (i + 1), by omega, rfl, q⟩, fun x H3 hyx => ?_⟩
    obtain ⟨hn, rx⟩ := hy x H3 hyx
    rw [List.drop_eq_getElem_cons hlt] at q2
    have z3 : Fz g2 H2 g2 H3 := Fz.new hn R2.sto.tr
    refine ⟨items[i], env2, S2, g2, _, R2.new hn, rx, q2, fun σ4 H4 _ ⟨g4, env4, S4, z4, R4, q4⟩ => ?_⟩
    have z14 := (z2.trans z3).trans z4.toFz
    refine ⟨env4, S4, g4, _, R4, q4, ⟨fun σ5 H5 ⟨g5, env5, S5, z5, R5, q5⟩ => ⟨hlt, g5, env5, S5, z14.trans z5, R5, q5⟩, fun _ _ q => q, fun σ5 H5 q => NQ.fz (st1.toFz.trans z14) q, fun σ5 H5 ⟨g5, env5, S5, z5, R5, q5⟩ => ⟨hlt, g5, env5, S5, z14.trans z5, R5, q5⟩⟩⟩
  · refine .inl ⟨(jok g2 H2 z2 R2.sto.tr i).2 (by omega), ?_⟩
    rw [List.drop_eq_nil_of_le (by omega)] at q2
    exact ⟨g2, env2, S2, st1.toFz.trans z2, R2, q2⟩
end

/-! ### a def's promise -/
structure XD where
  cls : Str
  fs : List (Str × D)
/-- the arguments, the store; what is wanted of the answer, of an exception -/
abbrev FSpec := List D → Sto → (T → Sto → Prop) → (XD → Sto → Prop) → Prop
def RF (mg : Str → Option Value) (w : WK) (H : Hp) (g' : Gh) (H' : Hp) : T → V → Prop
  | .val d, z => Rep mg w g' H' d z
  | .own m, z => ∃ a, z = .ref a ∧ RepM mg w g' H' m a ∧ H a = none ∧ ¬ g'.F a ∧ a ∉ g'.ρ
def SpOf (mg : Str → Option Value) (w : WK) (n : Nat) (sp : FSpec) : Sp := fun vs H Q _ => vs.length = n ∧ ∃ g S ds R, StoOk mg w g H S ∧ RepAll mg w g H ds vs ∧ sp ds S R (fun _ _ => False) ∧
  ∀ v H' g' t S', Stp g H g' H' → StoOk mg w g' H' S' → (∀ a, g'.F a → g.F a ∨ H a = none) → RF mg w H g' H' t v → R t S' → Q v H'
section
variable {X : Cx} {B : Hp} {g0 : Gh} {e : Expr} {es : List Expr} {pos : Pos}
/-- behind a call -/
theorem Rp.called {mg : Str → Option Value} {w : WK} {g g' : Gh} {H H' : Hp} {σ : L2.St} {env : VEnv} {S S' : Sto} (R : Rp mg w B g0 g H σ env S) (st : Stp g H g' H') (so : StoOk mg w g' H' S') (hf : ∀ a, g'.F a → g.F a ∨ H a = none) : Rp mg w B g0 g' H' σ env S' := by
  refine ⟨so, R.len, fun i d q => ?_, fun i m q => ?_, R.inj, R.base.trans st, fun a q => ?_, fun a q vs => ?_⟩
  · obtain ⟨v, h1, h2⟩ := R.val i d q
    exact ⟨v, h1, h2.mono st.toFz⟩
  · obtain ⟨a, h1, h2, h3, h4, h5⟩ := R.own i m q
    obtain ⟨o, ho, _⟩ := h2.there
    refine ⟨a, h1, h2.mono st.toFz ((st.oth a o ho h5).trans ho.symm), h3, fun z => ?_, fun z => ?_⟩
    · rcases hf a z with z | z
      · exact h4 z
      · rw [ho] at z; cases z
    · rcases st.rN a z with z | z
      · exact h5 z
      · rw [ho] at z; cases z
  · rcases hf a q with z | z
    · exact R.fN a z
    · exact .inr (R.bn z)
  · rcases st.rN a q with z | z
    · exact R.noTup a z vs
    · rw [R.bn z]; exact fun q => nomatch q
theorem Rp.rf {mg : Str → Option Value} {w : WK} {g g' : Gh} {H H' : Hp} {σ : L2.St} {env : VEnv} {S : Sto} {t : T} {v : V} (R : Rp mg w B g0 g H σ env S) (r : RF mg w H g' H' t v) : RT mg w B g' H' σ env t v := by
  cases t with
  | val d => exact r
  | own m =>
    obtain ⟨a, h1, h2, h3, h4, h5⟩ := r
    refine ⟨a, h1, h2, R.bn h3, h4, h5, fun i m' e q => ?_⟩
    obtain ⟨b, q1, q2, _⟩ := R.own i m' e
    rw [q] at q1; cases q1
    obtain ⟨o, q3, _⟩ := q2.there
    rw [h3] at q3; cases q3
def wCall (n : Nat) (sp : FSpec) (W : WA) : WE := fun env S Q => W env S fun ds env1 S1 => ds.length = n ∧ sp ds S1 (fun t S2 => Q t env1 S2) (fun _ _ => False)
def MoF (sp : FSpec) : Prop := ∀ ds S (R R' : T → Sto → Prop) E, (∀ t s, R t s → R' t s) → sp ds S R E → sp ds S R' E
theorem call_imp {n : Nat} {sp sp0 : FSpec} {dds : List D} {dvs : List V} (rd : ∀ g H, RepAll X.mg X.wk g H dds dvs) (is : ∀ ds S R E, sp ds S R E → sp0 (ds ++ dds) S R E) {W : WA} {E : XK} {σ : L2.St} {H : Hp} {env : VEnv} {S : Sto} {g : Gh} {Q : T → VEnv → Sto → Prop} (R : Rp X.mg X.wk B g0 g H σ env S) (q : wCall n sp W env S Q) : tCall (SpOf X.mg X.wk (n + dds.length) sp0) dvs E (tA X B g0 W) σ H (VQ X B g0 g H σ Q) := by
  refine ⟨env, S, g, _, R, q, fun vs H1 ⟨g1, ds, env1, S1, st1, R1, ra, q1⟩ => ?_⟩
  obtain ⟨hl, q1⟩ := if_false q1
  refine ⟨by rw [List.length_append, ← ra.length, ← (rd g1 H1).length, hl], g1, S1, ds ++ dds, _, R1.sto, ra.append (rd g1 H1), is _ _ _ _ q1, fun v H2 g2 t S2 st2 so hf rf q2 => ?_⟩
  exact ⟨g2, t, env1, S2, st1.trans st2, R1.called st2 so hf, R1.rf rf, q2⟩
/-- the facts of a def that is called: its promise, its name -/
structure FnV (P : Program) (w : World) (K : PySem.W.Frag) (mg : Str → Option Value) (base : Heap) (x : Str) (n k : Nat) (sp : FSpec) : Prop where
  mono : MoF sp
  ex : ∃ (f : Addr) (fd : FuncData) (ps : List Str) (dds : List D) (dvs : List V) (us : List Value) (sp0 : FSpec), FnOk P w K mg base (L2.CX P w) k f fd ps (SpOf mg (w, K) (n + dds.length) sp0) ∧ mg x = some (.ref f) ∧ PySem.W.keepIn K (.ref f) = true ∧ Binds K fd ps us ∧ Vals dvs us ∧ (∀ g H, RepAll mg (w, K) g H dds dvs) ∧ ∀ ds S R E, sp ds S R E → sp0 (ds ++ dds) S R E
theorem wCall_mono {n : Nat} {sp : FSpec} {W : WA} (mf : MoF sp) (m : Mo W) : Mo (wCall n sp W) := fun _ _ _ _ i q => m _ _ _ _ (fun _ _ _ q => if_mono (mf _ _ _ _ _ fun _ _ => i _ _ _) q) q
theorem ve_call {x : Str} {n k : Nat} {sp : FSpec} {W : WA} {p : Pos} (F : FnV X.prog X.w X.K X.mg X.base x n k sp) (hr : Room k X.A) (hg : Gl X x) (ha : VA X B g0 (e :: es) W) (hdb : (x == ("__debug__" : Str)) = false := by decide)
    (he : starEach (e :: es) X.env = (false, eval e X.env) :: starEach es X.env := by rfl) (hpl : (backTo pos (starEach es X.env)).any (·.1) = false := by rfl) : VE X B g0 (.Call (.Name x p) (e :: es) [] pos) (wCall n sp W) := by
  obtain ⟨f, fd, ps, dds, dvs, us, sp0, G, hm, hk, hb, hd, rd, is⟩ := F.ex
  exact VE.of (wCall_mono F.mono ha.mono) (pe_call G hr hg hm hk hb hd passL ha.pa hdb he hpl) fun σ H env S g Q R q => call_imp rd is R q
theorem ve_call0 {x : Str} {k : Nat} {sp : FSpec} {p : Pos} (F : FnV X.prog X.w X.K X.mg X.base x 0 k sp) (hr : Room k X.A) (hg : Gl X x) (hdb : (x == ("__debug__" : Str)) = false := by decide) : VE X B g0 (.Call (.Name x p) [] [] pos) (wCall 0 sp wA0) := by
  obtain ⟨f, fd, ps, dds, dvs, us, sp0, G, hm, hk, hb, hd, rd, is⟩ := F.ex
  refine VE.of (wCall_mono F.mono (fun _ _ _ _ i q => i _ _ _ q)) (pe_call0 G hr hg hm hk hb hd passL hdb) fun σ H env S g Q R q => ?_
  obtain ⟨env', S', g', Q0, R', q', k'⟩ : tA X B g0 wA0 σ H _ := call_imp (E := E0) rd is R q
  exact k' [] H ⟨g', [], env', S', Stp.refl _ _, R', .nil, q'⟩
end
theorem FnV.of {P : Program} {w : World} {K : PySem.W.Frag} {mg : Str → Option Value} {base : Heap} {x : Str} {n k : Nat} {sp : FSpec} {f : Addr} {fd : FuncData} {ps : List Str} (m : MoF sp) (G : FnOk P w K mg base (L2.CX P w) k f fd ps (SpOf mg (w, K) n sp)) (hm : mg x = some (.ref f)) (hk : PySem.W.keepIn K (.ref f) = true) (hb : Binds K fd ps []) : FnV P w K mg base x n k sp :=
  ⟨m, f, fd, ps, [], [], [], sp, G, hm, hk, hb, .nil, fun _ _ => .nil, fun ds S R E q => by rw [List.append_nil]; exact q⟩
/-- the slots at a def's entry -/
def env0 (n : Nat) (ds : List D) : VEnv := ds.map (fun d => some (.val d)) ++ List.replicate (n - ds.length) none
section
variable {P : Program} {w : World} {K : PySem.W.Frag} {mg : Str → Option Value} {base : Heap}
theorem rp_start {g : Gh} {H : Hp} {S : Sto} {ds : List D} {vs : List V} {N : List Str} (so : StoOk mg (w, K) g H S) (r : RepAll mg (w, K) g H ds vs) : Rp mg (w, K) H g g H (L2.start N vs) (env0 N.length ds) S := by
  have hl := r.length
  have no : ∀ (i : Nat) (t : T), (env0 N.length ds)[i]? = some (some t) → ∃ d, ds[i]? = some d ∧ t = .val d := fun i t e => by
    unfold env0 at e
    by_cases hi : i < ds.length
    · rw [List.getElem?_append_left (by simpa using hi), List.getElem?_map, List.getElem?_eq_getElem hi] at e
      simp at e
      exact ⟨_, List.getElem?_eq_getElem hi, e.symm⟩
    · rw [List.getElem?_append_right (by simpa using hi)] at e
      rw [List.getElem?_replicate] at e
      split at e <;> cases e
  refine ⟨so, ?_, fun i d e => ?_, fun i m e => ?_, fun i j m m' a e => ?_, Stp.refl g H, fun a h => .inl h, fun a ha vs e => ?_⟩
  · unfold env0 L2.start
    rw [List.length_append, List.length_append, List.length_map, List.length_map, List.length_replicate, List.length_replicate, hl]
  · obtain ⟨d', h1, h2⟩ := no i _ e
    cases h2
    obtain ⟨v, h3, h4⟩ := r.get h1
    refine ⟨v, ?_, h4⟩
    unfold L2.start
    rw [List.getElem?_append_left (by simpa using (List.getElem?_eq_some_iff.mp h3).1), List.getElem?_map, h3]
    rfl
  · obtain ⟨d', _, h2⟩ := no i _ e; cases h2
  · obtain ⟨d', _, h2⟩ := no i _ e; cases h2
  · obtain ⟨o, h1, h2⟩ := so.there ha
    rw [h1] at e
    exact h2 vs (Option.some.inj e)
/-- a body's context -/
abbrev cxX (P : Program) (w : World) (K : PySem.W.Frag) (mg : Str → Option Value) (base : Heap) (N : List Str) (qual : Str) (sc : Scope) (f : Addr) (cdv : Value) (A : Around) (outer : List Env) (s : Shared) (H : Hp) (E : XK) : Cx := (cxOf (L2.CX P w) P w K mg base N qual sc f cdv A outer s H E).nox
/-- THE RULE for a def that raises nothing of its own -/
theorem fn_ok {x qual : Str} {st : Stmt} {dvs : List V} {kws : List (Str × V)} {f : Addr} {fd : FuncData} {N ps : List Str} {k n : Nat} {sp : FSpec} {W : WS} (F : FunD K x qual (defArgs st) (defBody st) (defScope st) dvs kws f fd) (Sc : FnScope N ps (defScope st)) (hn : n = ps.length)
    (hb : ∀ (cdv : Value) (A : Around) (outer : List Env) (s : Shared) (H : Hp) (E : XK) (B : Hp) (g0 : Gh), Room k (A.deeper (envOfC qual (defScope st) s.heap.objs.size f cdv)) → VSs (cxX P w K mg base N qual (defScope st) f cdv A outer s H E) B g0 (defBody st) W)
    (hv : ∀ ds S R, sp ds S R (fun _ _ => False) → W { nx := fun _ s => R (.val .non) s, rt := R } (env0 N.length ds) S) : FnOk P w K mg base (L2.CX P w) (k + 1) f fd ps (SpOf mg (w, K) n sp) := by
  refine F.ok Sc (fun vs H Q E h => h.1.trans hn) fun cdv A outer s H vs Q E hr ⟨hl, g, S, ds, R, so, ra, hsp, fin⟩ => ?_
  have hb' := hb cdv A outer s H E H g hr
  refine ⟨_, hb'.ps.nox, env0 N.length ds, S, g, _, rp_start so ra, hv ds S R hsp, ?_⟩
  refine ⟨fun σ' H' ⟨g', env', S', z, R', q⟩ => ?_, fun v H' ⟨g', t, σ', env', S', R', rt, q⟩ => ?_, fun _ _ ⟨_, _, _, _, _, q⟩ => q, fun _ _ ⟨_, _, _, _, _, q⟩ => q⟩
  · exact fin .non H' g' (.val .non) S' R'.base R'.sto R'.fN Rep.non q
  · refine fin v H' g' t S' R'.base R'.sto R'.fN ?_ q
    cases t with
    | val d => exact rt
    | own m => obtain ⟨a, h1, h2, h3, h4, h5, _⟩ := rt; exact ⟨a, h1, h2, h3, h4, h5⟩
end
end VC

set_option Elab.async false
set_option linter.all false
set_option maxRecDepth 100000
set_option maxHeartbeats 4000000
/-! VI: enumerate and zip over lists and tuples in any mix. -/
namespace VC
open PySem PySem.Spec PyProof.Rows L2

/-- a walk of n turns, each a new tuple of f, while C holds -/
def Itx (C : Hp → Prop) (n : Nat) (f : Nat → List V) : It :=
  ⟨fun i H => C H ∧ i < n, fun i H v H' => ∃ T, v = .ref T ∧ H T = none ∧ H' = upd H T (.tup (f i)), fun i H => C H ∧ i = n⟩
theorem turn_wt {P : Program} {w : World} {K : PySem.W.Frag} {elts : List Expr} {kk : Nat} {tpos : Pos} {C : Hp → Prop} {n : Nat} {f : Nat → List V} {it : Addr} {cells wr : List Addr} {tn : Nat → Heap → Prop}
    (mem : it ∈ cells) (wrs : ∀ b ∈ wr, b ∈ cells) (fl : ∀ i, (f i).length ≤ sizeLine)
    (obj : ∀ i h, tn i h → ∀ b ∈ cells, ∃ o, h.get? b = some o ∧ ∀ v, o.data ≠ .cell v)
    (keep : ∀ i h h', tn i h → (∀ b ∈ cells, ∀ o, h.get? b = some o → h'.get? b = some o) → tn i h')
    (self : ∀ (A : Around) (i : Nat) (s : Shared) (Q : Value → Shared → Prop) (E : Value → Shared → Prop), tn i s.heap → Q (.ref it) s → wpAny (model P w) A (pyIter (.ref it)) Q E s)
    (src : ∀ (X : Cx), X.prog = P → X.w = w → X.K = K → X.calm = true → ∀ (pins : List (Addr × Obj)) (s : Shared) (σ : L2.St) (H : Hp), Inv X pins σ H s → C H →
      ∃ fp Pt St Mid, WalksT P w X.A it fp wr n Pt St Mid ∧ (∀ i, tn i s.heap → St i s.heap) ∧ (∀ i h, St i h → tn i h) ∧ (∀ i vals, i < n → Pt i vals → Vals (f i) vals.toList)) :
    Turn P w K (.Tuple elts kk tpos) (Itx C n f) cells it tn where
  mem := mem
  obj := obj
  keep := keep
  self := self
  item := by
    intro X hP hw hK hc i pins s σ H E I hf st hg
    obtain ⟨hC, hi⟩ := hg
    obtain ⟨fp, Pt, St, Mid, W, toS, ofS, ptv⟩ := src X hP hw hK hc pins s σ H I hC
    have hP' := hP; have hw' := hw
    subst hP hw hK
    have cl : ∀ b ∈ cells, b < s.heap.objs.size := fun b hb => by obtain ⟨o, ho, _⟩ := obj i s.heap st b hb; exact Heap.lt_size ho
    refine W.item i s _ _ hi (toS i st) fun T vals h' tk pt hT hTup mid hk => ?_
    refine ⟨_, rfl, W.go elts kk tpos i T { s with heap := h', toks := tk } _ _ mid fun h'' st' hk' => ?_⟩
    have vl := ptv i vals hi pt
    have hTn : T ∉ wr := W.apart i T h' mid
    have hT2 : ∃ o, h''.get? T = some o ∧ o.cls = .type "tuple" ∧ ∃ m, o.data = .seq vals m := by
      obtain ⟨o, e, c, m, d⟩ := hTup
      exact ⟨o, hk' T o hTn e, c, m, d⟩
    have new : ObjOk X.prog X.w (upd H T (.tup (f i))) h'' T (.tup (f i)) := by
      obtain ⟨o, e, c, m, d⟩ := hT2
      exact ⟨fl i, vals.toList, vl, ⟨o, e, c, m, by simpa using d⟩⟩
    have I1 : Inv X pins σ (upd H T (.tup (f i))) { s with heap := h'', toks := tk } :=
      I.turnedNew (ch := cells) (fun b ob hb q => hk' b ob (fun z => hb (wrs b z)) (hk b ob (fun z => hb (wrs b z)) q)) hf hT new
    refine ⟨.ref T, _, I1, rfl, ⟨T, rfl, I.hok.fresh hT, rfl⟩, ofS _ _ st', fun b hb => ?_⟩
    rw [upd_ne (Nat.ne_of_lt (Nat.lt_of_lt_of_le (cl b hb) hT))]
    exact (hf b hb).1
  done := by
    intro X hP hw hK hc i pins s σ H E I hf st hg
    obtain ⟨hC, hi⟩ := hg
    obtain ⟨fp, Pt, St, Mid, W, toS, ofS, ptv⟩ := src X hP hw hK hc pins s σ H I hC
    subst hP hw hK hi
    exact W.done s _ _ (toS _ st) fun h' tk hk => ⟨rfl, I.turnedL (t' := tk) (ch := cells) (fun b o hb q => hk b o (fun z => hb (wrs b z)) q) hf⟩

/-- its iterator -/
def itObj (isL : Bool) (a : Addr) : Obj := { cls := .type (if isL then "list_iterator" else "tuple_iterator"), data := .fields #[.ref a, .int 0 0] }
def ItAt (isL : Bool) (h : Heap) (it a : Addr) (i : Nat) : Prop := if isL then h.IsListIter it a i else h.IsTupleIter it a i
def SqB (isL : Bool) (h : Heap) (a : Addr) (its : Array Value) : Prop := if isL then h.IsList a its else h.IsTuple a its
theorem begins_sq (isL : Bool) (a : Addr) (its : Array Value) : Begins (.ref a) (itObj isL a) fun h => SqB isL h a its := by
  cases isL with
  | true => exact begins_list a its
  | false => exact begins_tuple a its
theorem draws_sq {prog : Program} {w : World} {A : Around} (hh : A.handled = none) (isL : Bool) (it a : Addr) (hne : a ≠ it) (its : Array Value) :
    Draws prog w A it [it, a] its.size (fun i v => its[i]? = some v) (fun i h => ItAt isL h it a i ∧ SqB isL h a its) := by
  cases isL with
  | true => exact Draws.list hh it a hne its
  | false => exact Draws.tuple hh it a hne its
theorem ItAt.at {isL : Bool} {h h' : Heap} {it a : Addr} {i : Nat} (x : ItAt isL h it a i) (k : ∀ o, h.get? it = some o → h'.get? it = some o) : ItAt isL h' it a i := by
  cases isL with
  | true => exact Heap.IsListIter.at x k
  | false => exact Heap.IsTupleIter.at x k
theorem ItAt.obj {isL : Bool} {h : Heap} {it a : Addr} {i : Nat} (x : ItAt isL h it a i) : ∃ o, h.get? it = some o ∧ ∀ v, o.data ≠ .cell v := by
  cases isL with
  | true => obtain ⟨o, e, _, d⟩ := x; exact ⟨o, e, fun v q => by rw [d] at q; cases q⟩
  | false => obtain ⟨o, e, _, d⟩ := x; exact ⟨o, e, fun v q => by rw [d] at q; cases q⟩
theorem ItAt.new {isL : Bool} {h : Heap} {it a : Addr} (e : h.get? it = some (itObj isL a)) : ItAt isL h it a 0 := by
  cases isL with
  | true => exact ⟨_, e, rfl, rfl⟩
  | false => exact ⟨_, e, rfl, rfl⟩
/-- which of both -/
def SqK (isL : Bool) (H : Hp) (a : Addr) (xs : List V) : Prop := if isL then Rd H a (.lst xs) else H a = some (.tup xs)
theorem Inv.sqk {X : Cx} {pins : List (Addr × Obj)} {s : Shared} {σ : L2.St} {H : Hp} {a : Addr} {xs : List V} {isL : Bool} (I : Inv X pins σ H s) (h : SqK isL H a xs) : ∃ its : List Value, Vals xs its ∧ SqB isL s.heap a its.toArray ∧ xs.length ≤ sizeLine ∧ a < s.heap.objs.size := by
  cases isL with
  | true =>
    obtain ⟨its, r, p, z⟩ := I.list (.inl h)
    exact ⟨its, r, p.isList, z, p.lt⟩
  | false =>
    obtain ⟨its, r, p, z⟩ := I.tuple (SqT.at h)
    exact ⟨its, r, p, z, p.lt⟩
theorem itObj_free {isL : Bool} {a : Addr} : (itObj isL a).isFreed = false := by cases isL <;> rfl

/-! ### enumerate -/
section
set_option maxHeartbeats 1000000 in
theorem meets_enumerate_new1 {v : Value} {o : Obj} {H : Heap → Prop} (B : Begins v o H) :
    Meets (Builtin.«enumerate.__new__» ⟨[.type "enumerate", v], []⟩) (fun _ R s => H s.heap ∧
      R (.ok (.ret (.ref (s.heap.push o).objs.size))) { s with heap := (s.heap.push o).push { cls := .type "enumerate", data := .fields #[.none, .bool false, .ref s.heap.objs.size, rawInt 0, .none, .none] } }) :=
  .of_wp fun prog w A R s h => by
    obtain ⟨hp, g, d, tk, os⟩ := s; obtain ⟨h1, h⟩ := h
    have hsub := sub_enumerate
    have q1 : ∀ {A' : Around} {E : Value → Shared → Prop} {Q : Value → Shared → Prop}, Q (.ref hp.objs.size) ⟨hp.push o, g, d, tk, os⟩ → wpAny (model prog w) A' (pyIter v) Q E ⟨hp, g, d, tk, os⟩ :=
      fun q => B.iter prog w _ _ ⟨hp, g, d, tk, os⟩ _ h1 q
    wp_walk using q1
    refine wpAny_stack_any fun st => wpAny_pure ?_
    split
    · rename_i c _ _ _ _ _
      cases (c == Value.type "enumerate")
      · wp_walk using q1
        exact ⟨_, rfl, h⟩
      · wp_walk using q1
        exact ⟨_, rfl, h⟩
    · wp_walk using q1
      exact ⟨_, rfl, h⟩
theorem enum_begins1 {prog : Program} {w : World} {A : Around} {E : Value → Shared → Prop} {s : Shared} {v : Value} {o : Obj} {H : Heap → Prop} {Q : Value → Shared → Prop} (B : Begins v o H) (h1 : H s.heap)
    (h : ∀ h', IsEnum h' (s.heap.objs.size + 1) s.heap.objs.size 0 .none → h'.get? s.heap.objs.size = some o → h'.objs.size = s.heap.objs.size + 2 →
      (∀ b o, s.heap.get? b = some o → h'.get? b = some o) → Q (.ref (s.heap.objs.size + 1)) { s with heap := h' }) :
    wpAny (model prog w) A (call (.type "enumerate") [v]) Q E s := by
  refine callType_new F.called_enumerate (by decide) (F.typeCall_enumerate_1 _) (F.newCall_enumerate_1 _) (fun obj => F.args_object_init_2 obj _) F.entry_enumerate_new
    (meets_enumerate_new1 B) ⟨h1, ?_⟩
  have hz : (s.heap.push o).objs.size = s.heap.objs.size + 1 := Heap.size_push ..
  show _ ∧ _
  rw [hz]
  have he : IsEnum ((s.heap.push o).push { cls := .type "enumerate", data := .fields #[.none, .bool false, .ref s.heap.objs.size, rawInt 0, .none, .none] }) (s.heap.objs.size + 1) s.heap.objs.size 0 .none := by
    have := Heap.get?_push_size (s.heap.push o) (o := { cls := .type "enumerate", data := .fields #[.none, .bool false, .ref s.heap.objs.size, rawInt 0, .none, .none] }) rfl
    rw [hz] at this; exact this
  refine ⟨⟨_, he, rfl⟩, h _ he (Heap.get?_push_of_some _ (Heap.get?_push_size _ B.free)) (by rw [Heap.size_push, hz]) fun b o x => Heap.get?_push_of_some _ (Heap.get?_push_of_some _ x)⟩
end
def enF (xs : List V) : Nat → List V := fun i => [.int (i : Nat), xs.getD i .non]
theorem vals_getD {xs : List V} {its : List Value} (r : Vals xs its) {i : Nat} {u : Value} (h : its[i]? = some u) : RelV (xs.getD i .non) u := by
  have hi : i < xs.length := by rw [r.length]; exact (List.getElem?_eq_some_iff.mp h).1
  obtain ⟨u', h1, h2⟩ := r.get (List.getElem?_eq_getElem hi)
  rw [h] at h1; cases h1
  rw [List.getD_eq_getElem?_getD, List.getElem?_eq_getElem hi]
  exact h2
theorem turn_enX {P : Program} {w : World} {K : PySem.W.Frag} {elts : List Expr} {kk : Nat} {tpos : Pos} {isL : Bool} {xs : List V} (a e it : Addr) (hle : a ≠ e) (hli : a ≠ it) (hei : e ≠ it) :
    Turn P w K (.Tuple elts kk tpos) (Itx (fun H => SqK isL H a xs) xs.length (enF xs)) [e, it] e (fun i h => (∃ old, IsEnum h e it ((i : Nat) : Int) old) ∧ ItAt isL h it a i) := by
  refine turn_wt (wr := [e, it]) (by simp) (fun b hb => hb) (fun i => by show 2 ≤ sizeLine; decide) (fun i h st b hb => ?_) (fun i h h' st k => ?_) (fun A i s Q E st h => let ⟨⟨_, he⟩, _⟩ := st; wpAny_pyIter_enum he h) fun X hP hw hK hc pins s σ H I hC => ?_
  · obtain ⟨⟨old, he⟩, hit⟩ := st
    have e' : b = e ∨ b = it := by simpa using hb
    rcases e' with z | z
    · rw [z]; exact ⟨_, he, fun v q => nomatch q⟩
    · rw [z]; exact hit.obj
  · obtain ⟨⟨old, he⟩, hi⟩ := st
    exact ⟨⟨old, k e (by simp) _ he⟩, hi.at fun o q => k it (by simp) o q⟩
  · obtain ⟨its, rv, hs, hz, hl⟩ := Inv.sqk I hC
    have D := draws_sq (prog := P) (w := w) (A := X.A.in1) (I.ok.hd hc) isL it a hli its.toArray
    have W := WalksT.enumerateD D e hei (by simp [hei, Ne.symm hle]) (by simp)
    have hn : its.toArray.size = xs.length := by rw [List.size_toArray]; exact rv.length.symm
    rw [hn] at W
    refine ⟨_, _, _, _, W, fun i st => ⟨st.1, st.2, hs⟩, fun i h st => ⟨st.1, st.2.1⟩, fun i vals hi ⟨t, x, hx, ev⟩ => ?_⟩
    subst ev
    exact .cons ⟨t, rfl⟩ (.cons (vals_getD rv (by simpa using hx)) .nil)

/-! ### zip -/
def zpF (xs ys : List V) : Nat → List V := fun i => [xs.getD i .non, ys.getD i .non]
theorem turn_zpX {P : Program} {w : World} {K : PySem.W.Frag} {elts : List Expr} {kk : Nat} {tpos : Pos} {k1 k2 : Bool} {xs ys : List V} {a b z TI TO i1 i2 : Addr} (S : ZipSep2 z TI TO i1 i2 [i1, a] [i2, b]) (ha : a ≠ i1) (hb : b ≠ i2) :
    Turn P w K (.Tuple elts kk tpos) (Itx (fun H => SqK k1 H a xs ∧ SqK k2 H b ys) (min xs.length ys.length) (zpF xs ys)) [z, TI, TO, i1, i2] z (fun i h => IsZip h z TI TO .none ∧ IsTupOf2 h TI (.ref i1) (.ref i2) ∧ (∃ x y, IsTupOf2 h TO x y) ∧ ItAt k1 h i1 a i ∧ ItAt k2 h i2 b i) := by
  refine turn_wt (wr := [z, TO, i1, i2]) (by simp) (fun b hb => by simp at hb ⊢; rcases hb with h | h | h | h <;> simp [h]) (fun i => by show 2 ≤ sizeLine; decide) (fun i h st c hc => ?_) (fun i h h' st k => ?_) (fun A i s Q E st h => wpAny_pyIter_zip st.1 h) fun X hP hw hK hc pins s σ H I hC => ?_
  · obtain ⟨hz, hTI, ⟨x, y, hTO⟩, h1, h2⟩ := st
    have e' : c = z ∨ c = TI ∨ c = TO ∨ c = i1 ∨ c = i2 := by simpa using hc
    rcases e' with q | q | q | q | q
    · rw [q]; exact ⟨_, hz, fun v q => nomatch q⟩
    · rw [q]; exact ⟨_, hTI, fun v q => nomatch q⟩
    · rw [q]; exact ⟨_, hTO, fun v q => nomatch q⟩
    · rw [q]; exact h1.obj
    · rw [q]; exact h2.obj
  · obtain ⟨hz, hTI, ⟨x, y, hTO⟩, h1, h2⟩ := st
    exact ⟨k z (by simp) _ hz, k TI (by simp) _ hTI, ⟨x, y, k TO (by simp) _ hTO⟩, h1.at fun o q => k i1 (by simp) o q, h2.at fun o q => k i2 (by simp) o q⟩
  · obtain ⟨its, rv, hs, hz, hl⟩ := Inv.sqk I hC.1
    obtain ⟨its2, rv2, hs2, hz2, hl2⟩ := Inv.sqk I hC.2
    have D := draws_sq (prog := P) (w := w) (A := X.A.in1) (I.ok.hd hc) k1 i1 a ha its.toArray
    have D2 := draws_sq (prog := P) (w := w) (A := X.A.in1) (I.ok.hd hc) k2 i2 b hb its2.toArray
    have W := WalksT.zipD2 S D D2
    have hn : its.toArray.size = xs.length := by rw [List.size_toArray]; exact rv.length.symm
    have hn2 : its2.toArray.size = ys.length := by rw [List.size_toArray]; exact rv2.length.symm
    rw [hn, hn2] at W
    refine ⟨_, _, _, _, W, fun i st => ⟨st.1, st.2.1, st.2.2.1, ⟨st.2.2.2.1, hs⟩, st.2.2.2.2, hs2⟩, fun i h st => ⟨st.1, st.2.1, st.2.2.1, st.2.2.2.1.1, st.2.2.2.2.1⟩, fun i vals hi ⟨x, y, hx, hy, ev⟩ => ?_⟩
    subst ev
    exact .cons (vals_getD rv (by simpa using hx)) (.cons (vals_getD rv2 (by simpa using hy)) .nil)
/-! ### as what a loop walks -/
section
variable {X : Cx} {B : Hp} {g0 : Gh} {e e2 : Expr} {p pos tpos : Pos} {elts : List Expr} {kk : Nat}
def iEnX (ta : TA) : TI := fun σ H R => ta σ H fun vs H1 => ∃ a xs isL, vs = [.ref a] ∧ SqK isL H1 a xs ∧ R (Itx (fun H => SqK isL H a xs) xs.length (enF xs)) H1
theorem pi_enX {ta : TA} (hg : Gl X "enumerate") (hm : X.mg "enumerate" = none) (ha : PA X [e] ta) (hs : starEach [e] X.env = [(false, eval e X.env)] := by rfl) :
    PI X (.Tuple elts kk tpos) (.Call (.Name "enumerate" p) [e] [] pos) (iEnX ta) := by
  refine ⟨fun pins s σ H R I h => ?_⟩
  refine Call_ (ld_blt I hg hm boot_enumerate (PyProof.Rows.callWith_type1 (thn (ha.run pos pins s σ H _ I h) fun us s1 ⟨vs, H1, I1, r1, q1⟩ => ?_) hs rfl))
  obtain ⟨a, xs, isL, ex, hq, q⟩ := q1
  subst ex
  cases r1 with
  | cons r rr =>
    cases rr
    cases r
    obtain ⟨its, rv, hb, hz, hl⟩ := Inv.sqk I1 hq
    refine enum_begins1 (begins_sq isL a its.toArray) hb fun h' he ho hsz hk => wpAny_pyIter_enum he ?_
    have I2 : Inv X pins σ H1 { s1 with heap := h' } := I1.kept (t' := s1.toks) hk
    refine ⟨s1.heap.objs.size + 1, [s1.heap.objs.size + 1, s1.heap.objs.size], _, _, H1, rfl, I2, turn_enX a (s1.heap.objs.size + 1) s1.heap.objs.size (Nat.ne_of_lt (Nat.lt_succ_of_lt hl)) (Nat.ne_of_lt hl) (Nat.succ_ne_self _), ⟨⟨.none, he⟩, ItAt.new ho⟩, fun b hb => ?_, q⟩
    have e' : b = s1.heap.objs.size + 1 ∨ b = s1.heap.objs.size := by simpa using hb
    have hle : s1.heap.objs.size ≤ b := by
      rcases e' with z | z
      · rw [z]; exact Nat.le_add_right _ _
      · rw [z]; exact Nat.le_refl _
    exact I1.fpOk hle (I1.hok.fresh hle)
theorem zipSep {n a b : Nat} (la : a < n) (lb : b < n) : ZipSep2 (n + 4) (n + 2) (n + 3) n (n + 1) [n, a] [n + 1, b] := by
  exact zip_sep2 (N := n) (fp1 := [a]) (fp2 := [b]) (fun x hx => by rw [List.mem_singleton.mp hx]; exact la) (fun x hx => by rw [List.mem_singleton.mp hx]; exact lb)
def iZpX (ta : TA) : TI := fun σ H R => ta σ H fun vs H1 => ∃ a b xs ys k1 k2, vs = [.ref a, .ref b] ∧ SqK k1 H1 a xs ∧ SqK k2 H1 b ys ∧ R (Itx (fun H => SqK k1 H a xs ∧ SqK k2 H b ys) (min xs.length ys.length) (zpF xs ys)) H1
theorem pi_zpX {ta : TA} (hg : Gl X "zip") (hm : X.mg "zip" = none) (ha : PA X [e, e2] ta)
    (hs : starEach [e, e2] X.env = (false, eval e X.env) :: starEach [e2] X.env := by rfl) (hpl : (backTo pos (starEach [e2] X.env)).any (·.1) = false := by rfl) :
    PI X (.Tuple elts kk tpos) (.Call (.Name "zip" p) [e, e2] [] pos) (iZpX ta) := by
  refine ⟨fun pins s σ H R I h => ?_⟩
  refine Call_ (ld_blt I hg hm PyProof.Rows.boot_zip (PyProof.Rows.callWith_type1 (thn (ha.run pos pins s σ H _ I h) fun us s1 ⟨vs, H1, I1, r1, q1⟩ => ?_) hs hpl))
  obtain ⟨a, b, xs, ys, k1, k2, ex, hqx, hqy, q⟩ := q1
  subst ex
  cases r1 with
  | cons r rr =>
    cases rr with
    | cons r' rr =>
      cases rr
      cases r
      cases r'
      obtain ⟨its, rv, hb1, _, la⟩ := Inv.sqk I1 hqx
      obtain ⟨its2, rv2, hb2, _, lb⟩ := Inv.sqk I1 hqy
      refine zip_begins2 (begins_sq k1 a its.toArray) (begins_sq k2 b its2.toArray) hb1 hb2 fun h' hz hTI hTO h1 h2 hsz hk => wpAny_pyIter_zip hz ?_
      have I2 : Inv X pins σ H1 { s1 with heap := h' } := I1.kept (t' := s1.toks) hk
      refine ⟨s1.heap.objs.size + 4, [s1.heap.objs.size + 4, s1.heap.objs.size + 2, s1.heap.objs.size + 3, s1.heap.objs.size, s1.heap.objs.size + 1], _, _, H1, rfl, I2, turn_zpX (k1 := k1) (k2 := k2) (a := a) (b := b) (zipSep la lb) (Nat.ne_of_lt la) (Nat.ne_of_lt (Nat.lt_succ_of_lt lb)), ⟨hz, hTI, ⟨_, _, hTO⟩, ItAt.new h1, ItAt.new h2⟩, fun c hcm => ?_, q⟩
      have e' : c = s1.heap.objs.size + 4 ∨ c = s1.heap.objs.size + 2 ∨ c = s1.heap.objs.size + 3 ∨ c = s1.heap.objs.size ∨ c = s1.heap.objs.size + 1 := by simpa using hcm
      have hle : s1.heap.objs.size ≤ c := by
        rcases e' with z | z | z | z | z
        · rw [z]; exact Nat.le_add_right _ _
        · rw [z]; exact Nat.le_add_right _ _
        · rw [z]; exact Nat.le_add_right _ _
        · rw [z]; exact Nat.le_refl _
        · rw [z]; exact Nat.le_add_right _ _
      exact I1.fpOk hle (I1.hok.fresh hle)
/-- a held list or tuple -/
theorem rep_sq {mg : Str → Option Value} {w : WK} {g : Gh} {H : Hp} {d : D} {v : V} {ds : List D} (r : Rep mg w g H d v) (h : d = .lst ds ∨ d = .tup ds) :
    ∃ a vs isL, v = .ref a ∧ SqK isL H a vs ∧ RepAll mg w g H ds vs ∧ ∀ g' H', Fz g H g' H' → SqK isL H' a vs := by
  rcases h with rfl | rfl
  · cases r with
    | @lst a vs ds h0 h1 h2 => exact ⟨a, vs, true, rfl, h1, h2, fun g' H' z => z.rd h0 h1⟩
  · cases r with
    | @tup a vs ds h1 h2 => exact ⟨a, vs, false, rfl, h1, h2, fun g' H' z => z.tup _ _ h1⟩
theorem RepAll.getD {mg : Str → Option Value} {w : WK} {g : Gh} {H : Hp} {ds : List D} {vs : List V} {i : Nat} {d : D} (r : RepAll mg w g H ds vs) (h : ds[i]? = some d) : Rep mg w g H d (vs.getD i .non) := by
  obtain ⟨v, h1, h2⟩ := r.get h
  rw [List.getD_eq_getElem?_getD, h1]
  exact h2
def enumD : Nat → List D → List D
  | _, [] => []
  | k, d :: ds => .tup [.int (k : Int), d] :: enumD (k + 1) ds
def zipD : List D → List D → List D
  | d :: ds, e :: es => .tup [d, e] :: zipD ds es
  | _, _ => []
theorem enumD_len : ∀ (ds : List D) (k : Nat), (enumD k ds).length = ds.length
  | [], _ => rfl
  | _ :: ds, k => by simp [enumD, enumD_len ds]
theorem enumD_get : ∀ (ds : List D) (k i : Nat) {x : D}, (enumD k ds)[i]? = some x → ∃ d, ds[i]? = some d ∧ x = .tup [.int ((k + i : Nat) : Int), d]
  | [], _, _, _, h => by simp [enumD] at h
  | d :: ds, k, 0, x, h => by simp [enumD] at h; exact ⟨d, by simp, by simpa using h.symm⟩
  | d :: ds, k, i + 1, x, h => by
    obtain ⟨e, h1, h2⟩ := enumD_get ds (k + 1) i (x := x) (by simpa [enumD] using h)
    exact ⟨e, h1, by rw [h2, Nat.add_assoc, Nat.add_comm 1 i]⟩
theorem zipD_len : ∀ (ds es : List D), (zipD ds es).length = min ds.length es.length
  | [], _ => by simp [zipD]
  | _ :: _, [] => by simp [zipD]
  | _ :: ds, _ :: es => by simp [zipD, zipD_len ds es]
theorem zipD_get : ∀ (ds es : List D) (i : Nat) {x : D}, (zipD ds es)[i]? = some x → ∃ d e, ds[i]? = some d ∧ es[i]? = some e ∧ x = .tup [d, e]
  | [], _, _, _, h => by simp [zipD] at h
  | _ :: _, [], _, _, h => by simp [zipD] at h
  | d :: ds, e :: es, 0, x, h => by simp [zipD] at h; exact ⟨d, e, by simp, by simp, h.symm⟩
  | d :: ds, e :: es, i + 1, x, h => by
    obtain ⟨d', e', h1, h2, h3⟩ := zipD_get ds es i (x := x) (by simpa [zipD] using h)
    exact ⟨d', e', by simpa using h1, by simpa using h2, h3⟩
theorem jok_en {mg : Str → Option Value} {w : WK} {g : Gh} {H : Hp} {a : Addr} {vs : List V} {ds : List D} {isL : Bool} (hs : ∀ g' H', Fz g H g' H' → SqK isL H' a vs) (r : RepAll mg w g H ds vs) : JOk mg w g H (Itx (fun H => SqK isL H a vs) vs.length (enF vs)) (enumD 0 ds) := by
  intro g' H' z tr i
  refine ⟨fun d hd => ?_, fun hl => ⟨hs g' H' z, by rw [hl, enumD_len, r.length]⟩⟩
  obtain ⟨d', h1, h2⟩ := enumD_get ds 0 i hd
  have hi : i < vs.length := by rw [← r.length]; exact (List.getElem?_eq_some_iff.mp h1).1
  refine ⟨⟨hs g' H' z, hi⟩, fun x H2 ⟨T, e1, e2, e3⟩ => ?_⟩
  subst e1 e3 h2
  have hn := New.upd (o := HO.tup (enF vs i)) e2
  refine ⟨hn, .tup upd_same (.cons ?_ (.cons (((r.mono z).getD h1).mono (Fz.new hn tr)) .nil))⟩
  rw [Nat.zero_add]; exact .int _
theorem jok_zp {mg : Str → Option Value} {w : WK} {g : Gh} {H : Hp} {a b : Addr} {vs us : List V} {ds es : List D} {k1 k2 : Bool} (hs : ∀ g' H', Fz g H g' H' → SqK k1 H' a vs) (hs2 : ∀ g' H', Fz g H g' H' → SqK k2 H' b us) (r : RepAll mg w g H ds vs) (r2 : RepAll mg w g H es us) :
    JOk mg w g H (Itx (fun H => SqK k1 H a vs ∧ SqK k2 H b us) (min vs.length us.length) (zpF vs us)) (zipD ds es) := by
  intro g' H' z tr i
  refine ⟨fun d hd => ?_, fun hl => ⟨⟨hs g' H' z, hs2 g' H' z⟩, by rw [hl, zipD_len, r.length, r2.length]⟩⟩
  obtain ⟨d1, d2, h1, h2, h3⟩ := zipD_get ds es i hd
  have hi : i < min vs.length us.length := by
    rw [← r.length, ← r2.length]
    have := (List.getElem?_eq_some_iff.mp h1).1
    have := (List.getElem?_eq_some_iff.mp h2).1
    omega
  refine ⟨⟨⟨hs g' H' z, hs2 g' H' z⟩, hi⟩, fun x H2 ⟨T, e1, e2, e3⟩ => ?_⟩
  subst e1 e3 h3
  have hn := New.upd (o := HO.tup (zpF vs us i)) e2
  exact ⟨hn, .tup upd_same (.cons (((r.mono z).getD h1).mono (Fz.new hn tr)) (.cons (((r2.mono z).getD h2).mono (Fz.new hn tr)) .nil))⟩
/-- the items of a list or tuple -/
def sqD : D → (List D → Prop) → Prop
  | .tup ds, K => K ds
  | .lst ds, K => K ds
  | _, _ => False
theorem sqD_mono {d : D} {K K' : List D → Prop} (i : ∀ ds, K ds → K' ds) (q : sqD d K) : sqD d K' := by
  unfold sqD at q ⊢
  split at q <;> first | exact i _ q | exact q
theorem sqD_of {d : D} {K : List D → Prop} (q : sqD d K) : ∃ ds, (d = .lst ds ∨ d = .tup ds) ∧ K ds := by
  unfold sqD at q
  split at q
  · exact ⟨_, .inr rfl, q⟩
  · exact ⟨_, .inl rfl, q⟩
  · exact q.elim
def iEn (W : WA) : WA := fun env S Q => W env S fun ds env' S' => match ds with
  | [d] => sqD d fun ds => Q (enumD 0 ds) env' S'
  | _ => False
theorem vi_enum {W : WA} (hg : Gl X "enumerate") (hm : X.mg "enumerate" = none) (ha : VA X B g0 [e] W) (hs : starEach [e] X.env = [(false, eval e X.env)] := by rfl) : VI X B g0 (.Tuple elts kk tpos) (.Call (.Name "enumerate" p) [e] [] pos) (iEn W) := by
  refine VI.of (fun _ _ _ _ i q => ha.mono _ _ _ _ (fun ds _ _ q => ?_) q) (pi_enX hg hm ha.pa hs) fun σ H env S g Q R q => ?_
  · split at q
    · exact sqD_mono (fun _ => i _ _ _) q
    · exact q.elim
  · refine ⟨env, S, g, _, R, q, fun vs H1 ⟨g1, ds, env1, S1, st1, R1, ra, q1⟩ => ?_⟩
    dsimp only at q1
    split at q1
    · cases ra with
      | cons r ra =>
        cases ra
        obtain ⟨ds, hd, q1⟩ := sqD_of q1
        obtain ⟨a, us, isL, rfl, h1, h2, h3⟩ := rep_sq r hd
        exact ⟨a, us, isL, rfl, h1, g1, _, env1, S1, st1, R1, jok_en h3 h2, q1⟩
    · exact q1.elim
def iZp (W : WA) : WA := fun env S Q => W env S fun ds env' S' => match ds with
  | [d, e] => sqD d fun ds => sqD e fun es => Q (zipD ds es) env' S'
  | _ => False
theorem vi_zip {W : WA} (hg : Gl X "zip") (hm : X.mg "zip" = none) (ha : VA X B g0 [e, e2] W)
    (hs : starEach [e, e2] X.env = (false, eval e X.env) :: starEach [e2] X.env := by rfl) (hpl : (backTo pos (starEach [e2] X.env)).any (·.1) = false := by rfl) : VI X B g0 (.Tuple elts kk tpos) (.Call (.Name "zip" p) [e, e2] [] pos) (iZp W) := by
  refine VI.of (fun _ _ _ _ i q => ha.mono _ _ _ _ (fun ds _ _ q => ?_) q) (pi_zpX hg hm ha.pa hs hpl) fun σ H env S g Q R q => ?_
  · split at q
    · exact sqD_mono (fun _ => sqD_mono fun _ => i _ _ _) q
    · exact q.elim
  · refine ⟨env, S, g, _, R, q, fun vs H1 ⟨g1, ds, env1, S1, st1, R1, ra, q1⟩ => ?_⟩
    dsimp only at q1
    split at q1
    · cases ra with
      | cons r ra =>
        cases ra with
        | cons r' ra =>
          cases ra
          obtain ⟨ds, hd, q1⟩ := sqD_of q1
          obtain ⟨es, he, q1⟩ := sqD_of q1
          obtain ⟨a, us, k1, rfl, h1, h2, h3⟩ := rep_sq r hd
          obtain ⟨b, ws, k2, rfl, j1, j2, j3⟩ := rep_sq r' he
          exact ⟨a, b, us, ws, k1, k2, rfl, h1, j1, g1, _, env1, S1, st1, R1, jok_zp h3 j3 h2 j2, q1⟩
    · exact q1.elim
end
end VC

set_option Elab.async false
set_option linter.all false
set_option maxRecDepth 100000
set_option maxHeartbeats 4000000
/-! VL: list comprehensions. -/
namespace VC
open PySem PySem.Spec PyProof.Rows L2

/-- slots forgotten; put back -/
def wpE (e : VEnv) : List Nat → VEnv
  | [] => e
  | v :: vs => (wpE e vs).set v none
def rst (e1 e : VEnv) : List Nat → VEnv
  | [] => e
  | v :: vs => (rst e1 e vs).set v (slot e1 v)
def noOwn (e : VEnv) : List Nat → Bool
  | [] => true
  | v :: vs => (match slot e v with | some (.own _) => false | _ => true) && noOwn e vs
theorem wpE_len (e : VEnv) : ∀ vs, (wpE e vs).length = e.length
  | [] => rfl
  | v :: vs => by rw [wpE, List.length_set, wpE_len e vs]
theorem wpE_some {e : VEnv} {j : Nat} {t : T} : ∀ {vs : List Nat}, (wpE e vs)[j]? = some (some t) → e[j]? = some (some t) ∧ j ∉ vs
  | [], h => ⟨h, by simp⟩
  | v :: vs, h => by
    unfold wpE at h
    by_cases hj : v = j
    · subst hj
      by_cases hl : v < (wpE e vs).length
      · rw [List.getElem?_set_self hl] at h; cases h
      · rw [List.getElem?_eq_none (by simpa using hl)] at h; cases h
    · rw [List.getElem?_set_ne hj] at h
      obtain ⟨h1, h2⟩ := wpE_some h
      exact ⟨h1, by simp only [List.mem_cons, not_or]; exact ⟨fun z => hj z.symm, h2⟩⟩
theorem rst_len (e1 e : VEnv) : ∀ vs, (rst e1 e vs).length = e.length
  | [] => rfl
  | v :: vs => by rw [rst, List.length_set, rst_len e1 e vs]
theorem rst_some {e1 e : VEnv} {j : Nat} {t : T} : ∀ {vs : List Nat}, (rst e1 e vs)[j]? = some (some t) → (j ∈ vs ∧ slot e1 j = some t) ∨ (j ∉ vs ∧ e[j]? = some (some t))
  | [], h => .inr ⟨by simp, h⟩
  | v :: vs, h => by
    unfold rst at h
    by_cases hj : v = j
    · subst hj
      by_cases hl : v < (rst e1 e vs).length
      · rw [List.getElem?_set_self hl] at h
        exact .inl ⟨by simp, Option.some.inj h⟩
      · rw [List.getElem?_eq_none (by simpa using hl)] at h; cases h
    · rw [List.getElem?_set_ne hj] at h
      rcases rst_some h with ⟨h1, h2⟩ | ⟨h1, h2⟩
      · exact .inl ⟨List.mem_cons_of_mem _ h1, h2⟩
      · exact .inr ⟨by simp only [List.mem_cons, not_or]; exact ⟨fun z => hj z.symm, h1⟩, h2⟩
theorem noOwn_at {e : VEnv} {j : Nat} {m : M} : ∀ {vs : List Nat}, noOwn e vs = true → j ∈ vs → slot e j = some (.own m) → False
  | v :: vs, h, hj, hs => by
    simp only [noOwn, Bool.and_eq_true] at h
    rcases List.mem_cons.mp hj with z | z
    · subst z; rw [hs] at h; exact absurd h.1 (by simp)
    · exact noOwn_at h.2 z hs
theorem wipe_get_in {σ : L2.St} {j : Nat} : ∀ {vs : List Nat}, j ∈ vs → j < σ.length → (wipe σ vs)[j]? = some none
  | v :: vs, h, hl => by
    unfold wipe
    by_cases hj : v = j
    · subst hj; rw [List.getElem?_set_self (by rw [wipe_length]; exact hl)]
    · rw [List.getElem?_set_ne hj]
      exact wipe_get_in ((List.mem_cons.mp h).resolve_left fun z => hj z.symm) hl
theorem wipe_wipe {σ : L2.St} {vs : List Nat} : wipe (wipe σ vs) vs = wipe σ vs := by
  apply List.ext_getElem?
  intro j
  by_cases hj : j ∈ vs
  · by_cases hl : j < σ.length
    · rw [wipe_get_in hj (by rw [wipe_length]; exact hl), wipe_get_in hj hl]
    · rw [List.getElem?_eq_none (by rw [wipe_length, wipe_length]; omega), List.getElem?_eq_none (by rw [wipe_length]; omega)]
  · rw [wipe_out hj]
theorem wipe_but {σ σ' : L2.St} {is vs : List Nat} (h : But is σ σ') (hs : ∀ i ∈ is, i ∈ vs) : wipe σ' vs = wipe σ vs := by
  apply List.ext_getElem?
  intro j
  by_cases hj : j ∈ vs
  · by_cases hl : j < σ.length
    · rw [wipe_get_in hj hl, wipe_get_in hj (by rw [h.1]; exact hl)]
    · have hl1 := h.1
      rw [List.getElem?_eq_none (by rw [wipe_length]; omega), List.getElem?_eq_none (by rw [wipe_length]; omega)]
  · rw [wipe_out hj, wipe_out hj]
    exact h.2 j fun z => hj (hs j z)
section
variable {mg : Str → Option Value} {w : WK} {B : Hp} {g0 g g1 : Gh} {H H1 : Hp} {σ : L2.St} {env env1 : VEnv} {S S1 : Sto}
theorem Rp.wipe (R : Rp mg w B g0 g H σ env S) (vs : List Nat) : Rp mg w B g0 g H (L2.wipe σ vs) (wpE env vs) S := by
  refine ⟨R.sto, by rw [wpE_len, wipe_length]; exact R.len, fun j d q => ?_, fun j m q => ?_, fun j k m m' a q1 q2 h1 h2 => ?_, R.base, R.fN, R.noTup⟩
  · obtain ⟨h1, h2⟩ := wpE_some q
    obtain ⟨v, k1, k2⟩ := R.val j d h1
    exact ⟨v, by rw [wipe_out h2]; exact k1, k2⟩
  · obtain ⟨h1, h2⟩ := wpE_some q
    obtain ⟨a, k1, k2⟩ := R.own j m h1
    exact ⟨a, by rw [wipe_out h2]; exact k1, k2⟩
  · obtain ⟨e1, n1⟩ := wpE_some q1
    obtain ⟨e2, n2⟩ := wpE_some q2
    rw [wipe_out n1] at h1
    rw [wipe_out n2] at h2
    exact R.inj j k m m' a e1 e2 h1 h2
/-- behind a block -/
theorem Rp.block {vs : List Nat} (R1 : Rp mg w B g0 g1 H1 σ env1 S1) (no : noOwn env1 vs = true) (R : Rp mg w B g0 g H (L2.wipe σ vs) env S) (z : Fz g1 H1 g H) : Rp mg w B g0 g H σ (rst env1 env vs) S := by
  refine ⟨R.sto, by rw [rst_len, R.len, wipe_length], fun j d q => ?_, fun j m q => ?_, fun j k m m' a q1 q2 h1 h2 => ?_, R.base, R.fN, R.noTup⟩
  · rcases rst_some q with ⟨h1, h2⟩ | ⟨h1, h2⟩
    · obtain ⟨v, k1, k2⟩ := R1.val j d (slot_get h2)
      exact ⟨v, k1, k2.mono z⟩
    · obtain ⟨v, k1, k2⟩ := R.val j d h2
      rw [wipe_out h1] at k1
      exact ⟨v, k1, k2⟩
  · rcases rst_some q with ⟨h1, h2⟩ | ⟨h1, h2⟩
    · exact (noOwn_at no h1 h2).elim
    · obtain ⟨a, k1, k2⟩ := R.own j m h2
      rw [wipe_out h1] at k1
      exact ⟨a, k1, k2⟩
  · rcases rst_some q1 with ⟨n1, e1⟩ | ⟨n1, e1⟩
    · exact (noOwn_at no n1 e1).elim
    · rcases rst_some q2 with ⟨n2, e2⟩ | ⟨n2, e2⟩
      · exact (noOwn_at no n2 e2).elim
      · exact R.inj j k m m' a e1 e2 (by rw [wipe_out n1]; exact h1) (by rw [wipe_out n2]; exact h2)
/-- an object that nobody here holds is changed -/
theorem Fz.upd {p : Addr} {o u : HO} (h : H p = some o) (ht : ∀ vs, o ≠ .tup vs) (nF : ¬ g.F p) : Fz g H g (L2.upd H p u) :=
  ⟨fun a vs e => by
    by_cases ha : a = p
    · subst ha; rw [h] at e; exact absurd (Option.some.inj e) (ht vs)
    · rw [upd_ne ha]; exact e, fun a hF => upd_ne fun z => nF (z ▸ hF), fun _ h => h, ⟨[], by simp⟩⟩
theorem Rp.mut {p : Addr} {o u : HO} (R : Rp mg w B g0 g H σ env S) (h : H p = some o) (ht : ∀ vs, o ≠ .tup vs) (nF : ¬ g.F p) (nρ : p ∉ g.ρ) (nB : B p = none) (no : ∀ (i : Nat) (m : M), env[i]? = some (some (T.own m)) → σ[i]? ≠ some (some (V.ref p))) : Rp mg w B g0 g (L2.upd H p u) σ env S := by
  have z : Fz g H g (L2.upd H p u) := Fz.upd h ht nF
  have so : StoOk mg w g (L2.upd H p u) S := ⟨R.sto.len, R.sto.nd, fun k a m h1 h2 => (R.sto.at_ k a m h1 h2).mono z (upd_ne fun q => nρ (q ▸ List.mem_of_getElem? h1)), R.sto.nF, fun a hF => by
    have na : a ≠ p := fun q => nF (by rw [← q]; exact hF)
    rw [upd_ne na]; exact R.sto.tr a hF⟩
  refine ⟨so, R.len, fun i d e => ?_, fun i m e => ?_, R.inj, ⟨R.base.toFz.trans z, fun a o' e ha => ?_, R.base.rN⟩, R.fN, R.noTup⟩
  · obtain ⟨v, h1, h2⟩ := R.val i d e
    exact ⟨v, h1, h2.mono z⟩
  · obtain ⟨a, h1, h2, h3⟩ := R.own i m e
    exact ⟨a, h1, h2.mono z (upd_ne fun q => no i m e (q ▸ h1)), h3⟩
  · rw [upd_ne fun q => by rw [q, nB] at e; cases e]
    exact R.base.oth a o' e ha
end

/-! ### another base: all that the body does not own -/
section
variable {mg : Str → Option Value} {w : WK} {B : Hp} {g0 g g' : Gh} {H H' : Hp} {σ σ' : L2.St} {env env' : VEnv} {S S' : Sto}
def OwnAt (σ : L2.St) (env : VEnv) (a : Addr) : Prop := ∃ (i : Nat) (m : M), env[i]? = some (some (T.own m)) ∧ σ[i]? = some (some (V.ref a))
open Classical in
noncomputable def reB (H : Hp) (σ : L2.St) (env : VEnv) : Hp := fun a => if OwnAt σ env a then none else H a
theorem reB_own {a : Addr} (h : OwnAt σ env a) : reB H σ env a = none := by unfold reB; rw [if_pos h]
theorem reB_ne {a : Addr} (h : ¬ OwnAt σ env a) : reB H σ env a = H a := by unfold reB; rw [if_neg h]
theorem reB_some {a : Addr} {o : HO} (h : reB H σ env a = some o) : ¬ OwnAt σ env a ∧ H a = some o := by
  by_cases k : OwnAt σ env a
  · rw [reB_own k] at h; cases h
  · rw [reB_ne k] at h; exact ⟨k, h⟩
theorem reB_none {a : Addr} (h : reB H σ env a = none) : OwnAt σ env a ∨ H a = none := by
  by_cases k : OwnAt σ env a
  · exact .inl k
  · rw [reB_ne k] at h; exact .inr h
theorem Rp.ownAt (R : Rp mg w B g0 g H σ env S) {a : Addr} (h : OwnAt σ env a) : B a = none ∧ ¬ g.F a ∧ a ∉ g.ρ ∧ ∃ o, H a = some o ∧ ∀ vs, o ≠ .tup vs := by
  obtain ⟨i, m, h1, h2⟩ := h
  obtain ⟨b, k1, k2, k3, k4, k5⟩ := R.own i m h1
  rw [h2] at k1; cases k1
  exact ⟨k3, k4, k5, k2.there⟩
theorem Rp.rebase (R : Rp mg w B g0 g H σ env S) : Rp mg w (reB H σ env) g g H σ env S := by
  refine ⟨R.sto, R.len, R.val, fun i m e => ?_, R.inj, ⟨⟨fun a vs e => (reB_some e).2, fun a hF => ?_, fun _ h => h, ⟨[], by simp⟩⟩, fun a o e _ => (reB_some e).2, fun _ h => .inl h⟩, fun a h => .inl h, fun a ha vs e => ?_⟩
  · obtain ⟨a, h1, h2, h3, h4, h5⟩ := R.own i m e
    exact ⟨a, h1, h2, reB_own ⟨i, m, e, h1⟩, h4, h5⟩
  · exact (reB_ne fun k => (R.ownAt k).2.1 hF).symm
  · obtain ⟨o, q, n⟩ := R.sto.there ha
    have := (reB_some e).2
    rw [q] at this
    exact n vs (Option.some.inj this)
theorem Rp.unbase (R : Rp mg w B g0 g H σ env S) (R' : Rp mg w (reB H σ env) g g' H' σ' env' S') : Rp mg w B g0 g' H' σ' env' S' := by
  have key : ∀ a, reB H σ env a = none → B a = none := fun a h => by
    rcases reB_none h with k | k
    · exact (R.ownAt k).1
    · exact R.bn k
  refine ⟨R'.sto, R'.len, R'.val, fun i m e => ?_, R'.inj, ⟨⟨fun a vs e => ?_, fun a hF => ?_, fun a h => R'.base.F a (R.base.F a h), ?_⟩, fun a o e ha => ?_, fun a ha => ?_⟩, fun a h => ?_, fun a ha vs e => ?_⟩
  · obtain ⟨a, h1, h2, h3, h4⟩ := R'.own i m e
    exact ⟨a, h1, h2, key a h3, h4⟩
  · have h := R.base.tup a vs e
    exact R'.base.tup a vs ((reB_ne fun k => by obtain ⟨o, q, n⟩ := (R.ownAt k).2.2.2; rw [h] at q; exact n vs (Option.some.inj q).symm).trans h)
  · have h := R.base.F a hF
    rw [R'.base.frz a h, reB_ne fun k => (R.ownAt k).2.1 h]
    exact R.base.frz a hF
  · obtain ⟨t, e⟩ := R.base.ρ
    obtain ⟨u, e'⟩ := R'.base.ρ
    exact ⟨t ++ u, by rw [e', e, List.append_assoc]⟩
  · have h := R.base.oth a o e ha
    refine R'.base.oth a o ((reB_ne fun k => by rw [(R.ownAt k).1] at e; cases e).trans h) fun z => ?_
    rcases R.base.rN a z with q | q
    · exact ha q
    · rw [e] at q; cases q
  · rcases R'.base.rN a ha with q | q
    · exact R.base.rN a q
    · exact .inr (key a q)
  · rcases R'.fN a h with q | q
    · exact R.fN a q
    · exact .inr (key a q)
  · rcases R'.base.rN a ha with q | q
    · exact R.noTup a q vs e
    · rw [key a q] at e; cases e
theorem Rp.apart (R' : Rp mg w (reB H σ env) g g' H' σ' env' S') {p : Addr} {o : HO} (h : H p = some o) (no : ¬ OwnAt σ env p) (nF : ¬ g.F p) (nρ : p ∉ g.ρ) : H' p = some o ∧ ¬ OwnAt σ' env' p ∧ ¬ g'.F p ∧ p ∉ g'.ρ := by
  have hb : reB H σ env p = some o := (reB_ne no).trans h
  refine ⟨R'.base.oth p o hb nρ, fun k => ?_, fun k => ?_, fun k => ?_⟩
  · have := (R'.ownAt k).1
    rw [hb] at this; cases this
  · rcases R'.fN p k with q | q
    · exact nF q
    · rw [hb] at q; cases q
  · rcases R'.base.rN p k with q | q
    · exact nρ q
    · rw [hb] at q; cases q
end

/-! ### the comprehension -/
def lcW (vs : List Nat) (G : WG) (Wt : WT) (We : WE) : List D → List D → VEnv → Sto → (List D → VEnv → Sto → Prop) → Prop
  | [], acc, env, S, Q => Q acc env S
  | d :: ds, acc, env, S, Q => G d env S fun env1 S1 => Wt env1 S1 fun b env2 S2 =>
    Ite b (We env2 S2 fun t env3 S3 => lcW vs G Wt We ds (acc ++ [t.d]) (wpE env3 vs) S3 Q) (lcW vs G Wt We ds acc (wpE env2 vs) S2 Q)
theorem lcW_mono {vs : List Nat} {G : WG} {Wt : WT} {We : WE} (mg : ∀ d env S (Q Q' : WEnd), (∀ e s, Q e s → Q' e s) → G d env S Q → G d env S Q') (mt : Mo Wt) (me : Mo We) {Q Q' : List D → VEnv → Sto → Prop} (i : ∀ t e s, Q t e s → Q' t e s) :
    ∀ items acc env S, lcW vs G Wt We items acc env S Q → lcW vs G Wt We items acc env S Q'
  | [], _, _, _, q => i _ _ _ q
  | d :: ds, acc, _, _, q => mg _ _ _ _ _ (fun _ _ q => mt _ _ _ _ (fun b _ _ q => q.mono (me _ _ _ _ (fun _ _ _ q => lcW_mono mg mt me i ds _ _ _ q)) (lcW_mono mg mt me i ds _ _ _)) q) q
def wLc (vs : List Nat) (Wi : WA) (G : WG) (Wt : WT) (We : WE) : WE := fun env S Q => Wi env S fun items env1 S1 =>
  (noOwn env1 vs = true ∧ items.length ≤ 1000000) ∧ lcW vs G Wt We items [] (wpE env1 vs) S1 fun acc env2 S2 => Q (.own (.lst acc)) (rst env1 env2 vs) S2
def wYes : WT := fun env S Q => Q true env S
section
variable {X : Cx} {B : Hp} {g0 : Gh} {elt tg iter c : Expr} {ifs : List Expr} {scope : Scope} {own : List (Str × Nat)} {pos : Pos}
structure VTs (X : Cx) (B : Hp) (g0 : Gh) (ifs : List Expr) (W : WT) : Prop where
  mono : Mo W
  pts : PTs X ifs (tT X B g0 W)
theorem vts_nil : VTs X B g0 [] wYes := ⟨fun _ _ _ _ i q => i _ _ _ q, ⟨fun pins s σ H Q I ⟨env, S, g, Q0, R, q, k⟩ => pts_nil.run pins s σ H Q I (k _ _ ⟨g, env, S, Stp.refl g H, R, q⟩)⟩⟩
theorem vts_one {W : WT} (h : VT X B g0 c W) : VTs X B g0 [c] W := ⟨h.mono, pts_one h.pt⟩
theorem wLc_mono {vs : List Nat} {Wi : WA} {G : WG} {Wt : WT} {We : WE} (mi : Mo Wi) (mg : ∀ d env S (Q Q' : WEnd), (∀ e s, Q e s → Q' e s) → G d env S Q → G d env S Q') (mt : Mo Wt) (me : Mo We) : Mo (wLc vs Wi G Wt We) := fun _ _ _ _ i q =>
  mi _ _ _ _ (fun items _ _ q => ⟨q.1, lcW_mono mg mt me (fun _ _ _ q => i _ _ _ q) items _ _ _ q.2⟩) q
theorem lc_imp {vs is : List Nat} {Wi : WA} {G : WG} {Wt : WT} {We : WE} (hs : ∀ i ∈ is, i ∈ vs) {tg : TG} {tt : TT} {tel : TE}
    (hg : ∀ (B' : Hp) (g' : Gh) v σ H Q, (∃ d env S g Q0, Rp X.mg X.wk B' g' g H σ env S ∧ Rep X.mg X.wk g H d v ∧ G d env S Q0 ∧ ∀ σ' H', But is σ σ' → GQ X B' g' g H Q0 σ' H' → Q σ' H') → tg v σ H Q)
    (ht : ∀ (B' : Hp) (g' : Gh) σ H Q, tT X B' g' Wt σ H Q → tt σ H Q) (he : ∀ (B' : Hp) (g' : Gh) σ H Q, tE X B' g' We σ H Q → tel σ H Q)
    {σ : L2.St} {H : Hp} {env : VEnv} {S : Sto} {g : Gh} {Q : T → VEnv → Sto → Prop} (R : Rp X.mg X.wk B g0 g H σ env S) (q : wLc vs Wi G Wt We env S Q) {Qf : VK} (kf : ∀ v H', VQ X B g0 g H σ Q v H' → Qf v H') :
    tLc (tI X B g0 Wi) tg tt tel vs σ H Qf := by
  refine ⟨env, S, g, _, R, q, fun J H1 g1 items env1 S1 st1 R1 jok q1 D hD => ?_⟩
  obtain ⟨⟨no, hlen⟩, q1⟩ := q1
  refine ⟨fun i m H' => m = items.length - i ∧ i ≤ items.length ∧ ∃ g' env' S' accD accV, Stp g1 H1 g' H' ∧ Rp X.mg X.wk B g0 g' H' (wipe σ vs) env' S' ∧ H' D = some (.lst accV) ∧ RepAll X.mg X.wk g' H' accD accV ∧ ¬ g'.F D ∧ D ∉ g'.ρ ∧ accD.length ≤ i ∧
    ¬ OwnAt (wipe σ vs) env' D ∧ lcW vs G Wt We (items.drop i) accD env' S' fun acc env2 S2 => Q (.own (.lst acc)) (rst env1 env2 vs) S2, ?_, ?_⟩
  · have hn := New.upd (o := HO.lst []) hD
    have R2 := (R1.new hn).wipe vs
    refine ⟨items.length, by simp, Nat.zero_le _, g1, wpE env1 vs, S1, [], [], hn.stp R1.sto.tr, R2, upd_same, .nil, R1.nF hD, R1.nρ hD, Nat.zero_le _, fun ⟨i, m, e, q⟩ => ?_, by simpa using q1⟩
    obtain ⟨h1, h2⟩ := wpE_some e
    rw [wipe_out h2] at q
    obtain ⟨a, k1, k2, _⟩ := R1.own i m h1
    rw [q] at k1; cases k1
    obtain ⟨o, k3, _⟩ := k2.there
    rw [hD] at k3; cases k3
  rintro i m H2 ⟨rfl, hi, g2, env2, S2, accD, accV, st2, R2, hDv, rAcc, nF, nρ, hal, nSl, q2⟩
  by_cases hlt : i < items.length
  · obtain ⟨hgo, hy⟩ := (jok g2 H2 st2.toFz R2.sto.tr i).1 _ (List.getElem?_eq_getElem hlt)
    refine .inr ⟨hgo, fun H' => i + 1 ≤ items.length ∧ ∃ g' env' S' accD accV, Stp g1 H1 g' H' ∧ Rp X.mg X.wk B g0 g' H' (wipe σ vs) env' S' ∧ H' D = some (.lst accV) ∧ RepAll X.mg X.wk g' H' accD accV ∧ ¬ g'.F D ∧ D ∉ g'.ρ ∧ accD.length ≤ i + 1 ∧
      ¬ OwnAt (wipe σ vs) env' D ∧ lcW vs G Wt We (items.drop (i + 1)) accD env' S' fun acc env2 S2 => Q (.own (.lst acc)) (rst env1 env2 vs) S2, fun H' q => ⟨items.length - (i + 1), by omega, rfl, q⟩, fun x H3 hyx => ?_⟩
    obtain ⟨hn, rx⟩ := hy x H3 hyx
    rw [List.drop_eq_getElem_cons hlt] at q2
    have st3 : Stp g2 H2 g2 H3 := hn.stp R2.sto.tr
    have R3 := R2.new hn
    have hD3 := hn D _ hDv
    -- the turn over another base
    have RB := R3.rebase
    refine hg (reB H3 (wipe σ vs) env2) g2 x _ H3 _ ⟨items[i], env2, S2, g2, _, RB, rx, q2, fun σ4 H4 but ⟨g4, env4, S4, st4, R4, q4⟩ => ?_⟩
    have wq : wipe σ4 vs = wipe σ vs := by
      have := wipe_but but hs
      rw [wipe_wipe] at this
      exact this
    refine ⟨wq, ht (reB H3 (wipe σ vs) env2) g2 σ4 H4 _ ⟨env4, S4, g4, _, R4, q4, fun b H5 ⟨g5, env5, S5, st5, R5, q5⟩ => ?_⟩⟩
    cases b with
    | false =>
      have q5 := q5.f
      obtain ⟨k1, k2, k3, k4⟩ := R5.apart hD3 nSl nF nρ
      have RU := (R3.unbase R5).wipe vs
      rw [wq] at RU
      have st25 := (st3.trans st4).trans st5
      refine ⟨hlt, g5, _, S5, accD, accV, st2.trans st25, RU, k1, (rAcc.mono st25.toFz), k3, k4, Nat.le_succ_of_le hal, fun ⟨j, m, e, qq⟩ => ?_, q5⟩
      obtain ⟨h1, h2⟩ := wpE_some e
      rw [← wq, wipe_out h2] at qq
      exact k2 ⟨j, m, h1, qq⟩
    | true =>
      have q5 := q5.t
      refine he (reB H3 (wipe σ vs) env2) g2 σ4 H5 _ ⟨env5, S5, g5, _, R5, q5, fun y H6 ⟨g6, t, env6, S6, st6, R6, rt, q6⟩ => ?_⟩
      obtain ⟨k1, k2, k3, k4⟩ := R6.apart hD3 nSl nF nρ
      obtain ⟨g7, st7, R7, rp⟩ := rt.hold R6
      obtain ⟨_, k2', k3', k4'⟩ := R7.apart hD3 nSl nF nρ
      have st27 := (((st3.trans st4).trans st5).trans st6).trans st7
      have RU := (R3.unbase R7).wipe vs
      rw [wq] at RU
      have nSl' : ¬ OwnAt (wipe σ vs) (wpE env6 vs) D := fun ⟨j, m, e, qq⟩ => by
        obtain ⟨h1, h2⟩ := wpE_some e
        rw [← wq, wipe_out h2] at qq
        exact k2' ⟨j, m, h1, qq⟩
      have zu : Fz g7 H6 g7 (upd H6 D (.lst (accV ++ [y]))) := Fz.upd k1 (fun _ q => nomatch q) k3'
      have RM := RU.mut (u := .lst (accV ++ [y])) k1 (fun _ q => nomatch q) k3' k4' (R1.bn hD) (fun j m e q => nSl' ⟨j, m, e, q⟩)
      have rAcc7 := rAcc.mono st27.toFz
      refine ⟨accV, k1, ?_, hlt, g7, _, S6, accD ++ [t.d], accV ++ [y], ?_, RM, upd_same, (rAcc7.append (.cons rp .nil)).mono zu, k3', k4', by rw [List.length_append]; exact Nat.succ_le_succ hal, nSl', q6⟩
      · rw [← rAcc.length]
        exact Nat.lt_of_le_of_lt hal (Nat.lt_of_lt_of_le hlt (Nat.le_trans hlen (by decide)))
      · have st17 := st2.trans st27
        refine ⟨st17.toFz.trans zu, fun a o e ha => ?_, st17.rN⟩
        have na : a ≠ D := fun q => by rw [q, hD] at e; cases e
        rw [upd_ne na]
        exact st17.oth a o e ha
  · refine .inl ⟨(jok g2 H2 st2.toFz R2.sto.tr i).2 (by omega), ?_⟩
    rw [List.drop_eq_nil_of_le (by omega)] at q2
    refine kf _ _ ⟨g2, .own (.lst accD), _, S2, st1.trans st2, R1.block no R2 st2.toFz, ⟨D, rfl, ⟨accV, hDv, rAcc⟩, R1.bn hD, nF, nρ, fun j m' e q => ?_⟩, q2⟩
    rcases rst_some e with ⟨h1, h2⟩ | ⟨h1, h2⟩
    · exact noOwn_at no h1 h2
    · exact nSl ⟨j, m', h2, by rw [wipe_out h1]; exact q⟩
/-- the block's parts, at any state, over any base -/
structure Blk (X : Cx) (scope : Scope) (is : List Nat) (tg elt : Expr) (ifs : List Expr) (G : WG) (Wt : WT) (We : WE) : Prop where
  g : ∀ (s : Shared) (H : Hp) (C : Addr) (cl : List (Str × Addr)) (fp : List Addr) (B' : Hp) (g' : Gh), VG (X.blk s H scope (compEnvC scope cl C X.env) fp) B' g' is tg G
  t : ∀ (s : Shared) (H : Hp) (C : Addr) (cl : List (Str × Addr)) (fp : List Addr) (B' : Hp) (g' : Gh), VTs (X.blk s H scope (compEnvC scope cl C X.env) fp) B' g' ifs Wt
  e : ∀ (s : Shared) (H : Hp) (C : Addr) (cl : List (Str × Addr)) (fp : List Addr) (B' : Hp) (g' : Gh), VE (X.blk s H scope (compEnvC scope cl C X.env) fp) B' g' elt We
/-- for every base at once -/
def tGu (X : Cx) (is : List Nat) (G : WG) : TG := fun v σ H Q => ∃ B' g', ∃ d env S g Q0, Rp X.mg X.wk B' g' g H σ env S ∧ Rep X.mg X.wk g H d v ∧ G d env S Q0 ∧ ∀ σ' H', But is σ σ' → GQ X B' g' g H Q0 σ' H' → Q σ' H'
def tTu (X : Cx) (W : WT) : TT := fun σ H Q => ∃ B' g', tT X B' g' W σ H Q
def tEu (X : Cx) (W : WE) : TE := fun σ H Q => ∃ B' g', tE X B' g' W σ H Q
theorem Blk.pg {is : List Nat} {G : WG} {Wt : WT} {We : WE} (b : Blk X scope is tg elt ifs G Wt We) (s : Shared) (H : Hp) (C : Addr) (cl : List (Str × Addr)) (fp : List Addr) : PG (X.blk s H scope (compEnvC scope cl C X.env) fp) tg (tGu X is G) :=
  ⟨fun pins s' σ H' v u Q I r ⟨B', g', h⟩ => (b.g s H C cl fp B' g').pg.run pins s' σ H' v u Q I r h⟩
theorem Blk.pt {is : List Nat} {G : WG} {Wt : WT} {We : WE} (b : Blk X scope is tg elt ifs G Wt We) (s : Shared) (H : Hp) (C : Addr) (cl : List (Str × Addr)) (fp : List Addr) : PTs (X.blk s H scope (compEnvC scope cl C X.env) fp) ifs (tTu X Wt) :=
  ⟨fun pins s' σ H' Q I ⟨B', g', h⟩ => (b.t s H C cl fp B' g').pts.run pins s' σ H' Q I h⟩
theorem Blk.pe {is : List Nat} {G : WG} {Wt : WT} {We : WE} (b : Blk X scope is tg elt ifs G Wt We) (s : Shared) (H : Hp) (C : Addr) (cl : List (Str × Addr)) (fp : List Addr) : PE (X.blk s H scope (compEnvC scope cl C X.env) fp) elt (tEu X We) :=
  ⟨fun pins s' σ H' Q I ⟨B', g', h⟩ => (b.e s H C cl fp B' g').pe.run pins s' σ H' Q I h⟩
theorem Blk.monos {is : List Nat} {G : WG} {Wt : WT} {We : WE} (b : Blk X scope is tg elt ifs G Wt We) : (∀ d env S (Q Q' : WEnd), (∀ e s, Q e s → Q' e s) → G d env S Q → G d env S Q') ∧ Mo Wt ∧ Mo We :=
  ⟨(b.g X.s_0 X.H_0 X.env.locals [] [] X.H_0 ⟨fun _ => False, []⟩).mono, (b.t X.s_0 X.H_0 X.env.locals [] [] X.H_0 ⟨fun _ => False, []⟩).mono, (b.e X.s_0 X.H_0 X.env.locals [] [] X.H_0 ⟨fun _ => False, []⟩).mono⟩
theorem ve_lc {is : List Nat} {Wi : WA} {G : WG} {Wt : WT} {We : WE} (hc : X.calm = true) (hN : X.N.Nodup) (hi : VI X B g0 tg iter Wi) (ok : blkC X.N X.env.scope scope own = true) (b : Blk X scope is tg elt ifs G Wt We) (hv : ∀ i ∈ is, i ∈ own.map (·.2))
    (hs : ∀ x, foldedSetIterable iter X.env x = pure x := by intro _; rfl) : VE X B g0 (.ListComp elt [⟨tg, iter, ifs, 0⟩] scope pos) (wLc (own.map (·.2)) Wi G Wt We) := by
  obtain ⟨m1, m2, m3⟩ := b.monos
  refine VE.of (wLc_mono hi.mono m1 m2 m3) (pe_lc (own := own) hc hN hi.pi (blkOk_by ok) b.pg b.pt b.pe hs) fun σ H env S g Q R q => ?_
  exact lc_imp hv (fun B' g' v σ H Q h => ⟨B', g', h⟩) (fun B' g' σ H Q h => ⟨B', g', h⟩) (fun B' g' σ H Q h => ⟨B', g', h⟩) R q fun _ _ h => h
/-- y = [..] -/
theorem vs_setLc {i : Nat} {y : Str} {py spos : Pos} {is : List Nat} {Wi : WA} {G : WG} {Wt : WT} {We : WE} (hc : X.calm = true) (hN : X.N.Nodup) (hy : X.N[i]? = some y) (hyl : X.env.scope.names.lookup y = some .local)
    (hsw : swapsWith (.ListComp elt [⟨tg, iter, ifs, 0⟩] scope pos) (some (.Name y py)) spos.line X.env = pure true) (hi : VI X B g0 tg iter Wi) (ok : blkC X.N X.env.scope scope own = true) (b : Blk X scope is tg elt ifs G Wt We) (hv : ∀ i ∈ is, i ∈ own.map (·.2))
    (hs : ∀ x, foldedSetIterable iter X.env x = pure x := by intro _; rfl) : VS X B g0 (.Assign [.Name y py] (.ListComp elt [⟨tg, iter, ifs, 0⟩] scope pos) spos) (wSet i (wLc (own.map (·.2)) Wi G Wt We)) := by
  obtain ⟨m1, m2, m3⟩ := b.monos
  refine VS.of (fun _ _ _ _ k q => wLc_mono hi.mono m1 m2 m3 _ _ _ _ (fun _ _ _ => k.nx _ _) q) (ps_setLc (own := own) hc hN hy hyl hsw hi.pi (blkOk_by ok) b.pg b.pt b.pe hs) fun σ H env S g De R q => ?_
  exact lc_imp (X := X) (B := B) (g0 := g0) hv (tg := tGu X is G) (tt := tTu X Wt) (tel := tEu X We) (fun B' g' v σ H Q h => ⟨B', g', h⟩) (fun B' g' σ H Q h => ⟨B', g', h⟩) (fun B' g' σ H Q h => ⟨B', g', h⟩) R q fun v H' ⟨g', t, env', S', st, R', rt, q⟩ =>
    ⟨g', _, S', st.toFz, R'.putOwn i rt, q⟩
end
end VC

set_option Elab.async false
set_option linter.all false
set_option maxRecDepth 100000
set_option maxHeartbeats 4000000
/-! VM: subscripts, slices, lists that change, built-ins. -/
namespace VC
open PySem PySem.Spec PyProof.Rows L2

/-! ### items -/
def nthD : List D → Nat → Option D
  | [], _ => none
  | d :: _, 0 => some d
  | _ :: ds, n + 1 => nthD ds n
theorem nthD_eq : ∀ (ds : List D) (n : Nat), nthD ds n = ds[n]?
  | [], _ => rfl
  | _ :: _, 0 => rfl
  | _ :: ds, n + 1 => by rw [nthD, nthD_eq ds n]; simp
def atD (ds : List D) : Int → Option D
  | .ofNat n => nthD ds n
  | .negSucc n => if n < ds.length then nthD ds (ds.length - (n + 1)) else none
def placeD (n : Nat) : Int → Option Nat
  | .ofNat k => if k < n then some k else none
  | .negSucc k => if k < n then some (n - (k + 1)) else none
theorem placeD_ix {n : Nat} {i : Int} {j : Nat} (h : placeD n i = some j) : ixN n i = some j := by
  unfold ixN
  cases i with
  | ofNat k =>
    simp only [placeD] at h
    split at h
    · cases h
      show (if (0 : Int) ≤ (j : Int) then (if (j : Int) < (n : Int) then some ((j : Int).toNat) else none) else _) = some j
      rw [if_pos (by omega), if_pos (by omega)]; rfl
    · cases h
  | negSucc k =>
    simp only [placeD] at h
    split at h
    · cases h
      have e : ¬ (0 : Int) ≤ Int.negSucc k := by omega
      rw [if_neg e, if_pos (by omega)]
      congr 1; omega
    · cases h
theorem atD_place {ds : List D} {i : Int} {d : D} (h : atD ds i = some d) : ∃ j, placeD ds.length i = some j ∧ ds[j]? = some d := by
  cases i with
  | ofNat k =>
    simp only [atD] at h
    rw [nthD_eq] at h
    refine ⟨k, ?_, h⟩
    simp only [placeD]
    rw [if_pos (List.getElem?_eq_some_iff.mp h).1]
  | negSucc k =>
    simp only [atD] at h
    split at h
    · rename_i hk
      rw [nthD_eq] at h
      exact ⟨_, by simp only [placeD]; rw [if_pos hk], h⟩
    · cases h
theorem RepAll.at {mg : Str → Option Value} {w : WK} {g : Gh} {H : Hp} {ds : List D} {vs : List V} {i : Int} {d : D} (r : RepAll mg w g H ds vs) (h : atD ds i = some d) : ∃ v, atI vs i = some v ∧ Rep mg w g H d v := by
  obtain ⟨j, h1, h2⟩ := atD_place h
  obtain ⟨v, h3, h4⟩ := r.get h2
  refine ⟨v, ?_, h4⟩
  unfold atI
  rw [← r.length, placeD_ix h1]
  exact h3
def opIx : O2
  | .tup ds, .int i, K => match atD ds i with | some d => K (.val d) | none => False
  | .lst ds, .int i, K => match atD ds i with | some d => K (.val d) | none => False
  | _, _, _ => False
theorem opIx_mono : Mo2 opIx := fun d e K K' i q => by
  unfold opIx at q ⊢
  split at q
  · split at q <;> first | exact i _ q | exact q
  · split at q <;> first | exact i _ q | exact q
  · exact q
section
variable {X : Cx}
theorem o_ixSeq : Ix2 X opIx := by
  refine ⟨opIx_mono, fun value slice pins s σ H x y v u Q I rx ry ⟨g, d, e, K, tr, c1, c2, q, k⟩ hs => ?_⟩
  unfold opIx at q
  split at q
  · obtain ⟨a, vs, rfl, h1, h2⟩ := c1.tup
    rw [c2.int] at ry
    split at q
    · rename_i d' hd
      obtain ⟨z, hz, rz⟩ := h2.at hd
      exact ix_tup value slice pins s σ H _ _ v u Q I rx ry ⟨a, vs, _, z, rfl, rfl, SqT.at h1, hz, k _ _ (rk_rep rz q)⟩ hs
    · exact q.elim
  · obtain ⟨a, vs, rfl, h1, h2⟩ := c1.lst
    rw [c2.int] at ry
    split at q
    · rename_i d' hd
      obtain ⟨z, hz, rz⟩ := h2.at hd
      exact ix_list value slice pins s σ H _ _ v u Q I rx ry ⟨a, vs, _, z, rfl, rfl, .inl h1, hz, k _ _ (rk_rep rz q)⟩ hs
    · exact q.elim
  · exact q.elim

/-! ### slices -/
def cutD (ds : List D) (lo hi : Option Int) : List D := (ds.drop (HT.sIx ds.length 0 lo)).take (HT.sIx ds.length ds.length hi - HT.sIx ds.length 0 lo)
theorem RepAll.cut {mg : Str → Option Value} {w : WK} {g : Gh} {H : Hp} {ds : List D} {vs : List V} (r : RepAll mg w g H ds vs) (lo hi : Option Int) : RepAll mg w g H (cutD ds lo hi) (cutV vs lo hi) := by
  unfold cutD cutV
  rw [r.length]
  exact (r.drop _).take _
variable {B : Hp} {g0 : Gh} {e a b : Expr} {es : List Expr} {pos p2 : Pos}
abbrev WPt := WX (Option Int)
def PQ (X : Cx) (B : Hp) (g0 : Gh) (g : Gh) (H : Hp) (σ : L2.St) (Q : Option Int → VEnv → Sto → Prop) : Option Int → Hp → Prop := fun b H' => ∃ g' env' S', Stp g H g' H' ∧ Rp X.mg X.wk B g0 g' H' σ env' S' ∧ Q b env' S'
structure VP (X : Cx) (B : Hp) (g0 : Gh) (e : Option Expr) (W : WPt) : Prop where
  mono : Mo W
  po : PO X e fun σ H Q => ∃ env S g Q0, Rp X.mg X.wk B g0 g H σ env S ∧ W env S Q0 ∧ ∀ b H', PQ X B g0 g H σ Q0 b H' → Q b H'
def pN : WPt := fun env S Q => Q none env S
def pS (W : WE) : WPt := fun env S Q => W env S fun t env' S' => match t with | .val (.int i) => Q (some i) env' S' | _ => False
theorem vp_none : VP X B g0 none pN := ⟨fun _ _ _ _ i q => i _ _ _ q, ⟨fun pins s σ H Q I ⟨env, S, g, Q0, R, q, k⟩ => po_none.run pins s σ H Q I (k _ _ ⟨g, env, S, Stp.refl g H, R, q⟩)⟩⟩
theorem vp_some {W : WE} (h : VE X B g0 e W) : VP X B g0 (some e) (pS W) := by
  refine ⟨fun _ _ _ _ i q => h.mono _ _ _ _ (fun t _ _ q => ?_) q, ⟨fun pins s σ H Q I ⟨env, S, g, Q0, R, q, k⟩ => (po_some h.pe).run pins s σ H Q I ⟨env, S, g, _, R, q, fun v H' ⟨g1, t, env1, S1, st, R1, rt, q1⟩ => ?_⟩⟩⟩
  · split at q <;> first | exact i _ _ _ q | exact q
  · dsimp only at q1
    split at q1
    · cases rt; exact ⟨_, rfl, k _ _ ⟨g1, env1, S1, st, R1, q1⟩⟩
    · exact q1.elim
def opSl (lo hi : Option Int) : O1
  | .tup ds, K => K (.val (.tup (cutD ds lo hi)))
  | .lst ds, K => K (.own (.lst (cutD ds lo hi)))
  | _, _ => False
theorem opSl_mono (lo hi : Option Int) : Mo1 (opSl lo hi) := fun d K K' i q => by
  unfold opSl at q ⊢
  split at q <;> first | exact i _ q | exact q
def wSl (Wo : WO) (Wl Wh : WPt) : WE := fun env S Q => Wo env S fun d env1 S1 => Wl env1 S1 fun lo env2 S2 => Wh env2 S2 fun hi env3 S3 => opSl lo hi (dr S3 d) fun t => Q t env3 S3
def rSlB (K : PySem.W.Frag) : V → Option Int → Option Int → Hp → VK → Prop := fun x lo hi H Q => rSlA K x lo hi H Q ∨ rSlL K x lo hi H Q
theorem cutD_all {ds : List D} {lo hi : Option Int} (h : HT.sIx ds.length 0 lo = 0 ∧ HT.sIx ds.length ds.length hi = ds.length) : cutD ds lo hi = ds := by
  unfold cutD
  rw [h.1, h.2]; simp
theorem ve_slice {lo hi : Option Expr} {Wo : WO} {Wl Wh : WPt} (h : VO X B g0 e Wo) (hl : VP X B g0 lo Wl) (hh : VP X B g0 hi Wh) : VE X B g0 (.Subscript e (.Slice lo hi none p2) pos) (wSl Wo Wl Wh) := by
  refine VE.of (fun _ _ _ _ i q => h.mono _ _ _ _ (fun _ _ _ q => hl.mono _ _ _ _ (fun _ _ _ q => hh.mono _ _ _ _ (fun _ _ _ q => opSl_mono _ _ _ _ _ (fun _ q => i _ _ _ q) q) q) q) q) (pe_slice (SlR.or sl_tupA sl_list) h.pe hl.po hh.po) fun σ H env S g Q R q => ?_
  refine ⟨env, S, g, _, R, q, fun x H1 ⟨g1, d, env1, S1, st1, R1, t1, q1⟩ => ⟨env1, S1, g1, _, R1, q1, fun lo H2 ⟨g2, env2, S2, st2, R2, q2⟩ => ⟨env2, S2, g2, _, R2, q2, fun hi H3 ⟨g3, env3, S3, st3, R3, q3⟩ => ?_⟩⟩⟩
  have c := ((t1.stp st2).stp st3).cont R3.sto
  have st13 := (st1.trans st2).trans st3
  dsimp only at q3
  unfold opSl at q3
  split at q3
  · rename_i ds hds
    rw [hds] at c
    obtain ⟨a, vs, rfl, h1, h2⟩ := c.tup
    refine .inl ⟨a, vs, rfl, SqT.at h1, fun hw => ?_, fun _ p hp => ?_⟩
    · rw [cutD_all (by rw [h2.length]; exact hw)] at q3
      exact ⟨g3, .val (.tup ds), env3, S3, st13, R3, Rep.tup h1 h2, q3⟩
    · have hn := New.upd (o := HO.tup (cutV vs lo hi)) hp
      exact ⟨g3, .val (.tup (cutD ds lo hi)), env3, S3, st13.trans (hn.stp R3.sto.tr), R3.new hn, Rep.tup upd_same ((h2.cut lo hi).mono (Fz.new hn R3.sto.tr)), q3⟩
  · rename_i ds hds
    rw [hds] at c
    obtain ⟨a, vs, rfl, h1, h2⟩ := c.lst
    refine .inr ⟨a, vs, rfl, .inl h1, fun p hp => ?_⟩
    have hn := New.upd (o := HO.lst (cutV vs lo hi)) hp
    exact ⟨g3, .own (.lst (cutD ds lo hi)), env3, S3, st13.trans (hn.stp R3.sto.tr), R3.new hn, R3.rt hn ⟨p, rfl, ⟨_, upd_same, (h2.cut lo hi).mono (Fz.new hn R3.sto.tr)⟩, hp⟩, q3⟩
  · exact q3.elim

/-! ### objects that change -/
/-- a slot's own object is changed -/
theorem Rp.mutOwn {mg : Str → Option Value} {w : WK} {g : Gh} {H : Hp} {σ : L2.St} {env : VEnv} {S : Sto} {i : Nat} {m m' : M} {p : Addr} {u : HO} (R : Rp mg w B g0 g H σ env S) (e : env[i]? = some (some (T.own m))) (hs : σ[i]? = some (some (V.ref p)))
    (r : RepM mg w g (upd H p u) m' p) : Rp mg w B g0 g (upd H p u) σ (env.set i (some (T.own m'))) S ∧ Fz g H g (upd H p u) := by
  have hi : i < env.length := (List.getElem?_eq_some_iff.mp e).1
  obtain ⟨p', k1, k2, k3, k4, k5⟩ := R.own i m e
  rw [hs] at k1; cases k1
  obtain ⟨o, ho, ht⟩ := k2.there
  have z : Fz g H g (upd H p u) := Fz.upd ho ht k4
  have R1 := R.drop i
  have RM := R1.mut (u := u) ho ht k4 k5 k3 (fun j m2 q1 q2 => by
    by_cases hj : i = j
    · subst hj; rw [List.getElem?_set_self hi] at q1; cases q1
    · rw [List.getElem?_set_ne hj] at q1
      exact hj (R.inj _ _ _ _ _ e q1 hs q2))
  refine ⟨?_, z⟩
  have RT' : RT mg w B g (upd H p u) σ (env.set i none) (.own m') (.ref p) := ⟨p, rfl, r, k3, k4, k5, fun j m2 q1 q2 => by
    by_cases hj : i = j
    · subst hj; rw [List.getElem?_set_self hi] at q1; cases q1
    · rw [List.getElem?_set_ne hj] at q1
      exact hj (R.inj _ _ _ _ _ e q1 hs q2)⟩
  have RP := RM.putOwn i RT'
  rw [List.set_set] at RP
  have es : σ.set i (some (V.ref p)) = σ := by
    apply List.ext_getElem?
    intro j
    by_cases hj : i = j
    · subst hj; rw [List.getElem?_set_self (List.getElem?_eq_some_iff.mp hs).1, hs]
    · rw [List.getElem?_set_ne hj]
  rw [es] at RP
  exact RP
/-- a store's object is changed -/
theorem Rp.mutSto {mg : Str → Option Value} {w : WK} {g : Gh} {H : Hp} {σ : L2.St} {env : VEnv} {S : Sto} {k : Nat} {m m' : M} {p : Addr} {u : HO} (R : Rp mg w B g0 g H σ env S) (e : S[k]? = some m) (hs : g.ρ[k]? = some p)
    (r : RepM mg w g (upd H p u) m' p) : Rp mg w B g0 g (upd H p u) σ env (S.set k m') ∧ Fz g H g (upd H p u) := by
  have hk : k < S.length := (List.getElem?_eq_some_iff.mp e).1
  have hm := List.mem_of_getElem? hs
  have k2 := R.sto.at_ k p m hs e
  obtain ⟨o, ho, ht⟩ := k2.there
  have nF := R.sto.nF p hm
  have z : Fz g H g (upd H p u) := Fz.upd ho ht nF
  have so : StoOk mg w g (upd H p u) (S.set k m') := by
    refine ⟨by rw [List.length_set]; exact R.sto.len, R.sto.nd, fun j a m2 h1 h2 => ?_, R.sto.nF, fun a hF => ?_⟩
    · by_cases hj : k = j
      · subst hj
        rw [List.getElem?_set_self hk] at h2; cases h2
        rw [hs] at h1; cases h1
        exact r
      · rw [List.getElem?_set_ne hj] at h2
        have na : a ≠ p := fun q => by
          subst q
          obtain ⟨l1, e1⟩ := List.getElem?_eq_some_iff.mp h1
          obtain ⟨l2, e2⟩ := List.getElem?_eq_some_iff.mp hs
          exact hj ((List.getElem_inj R.sto.nd).mp (e2.trans e1.symm))
        exact (R.sto.at_ j a m2 h1 h2).mono z (upd_ne na)
    · have na : a ≠ p := fun q => nF (by rw [← q]; exact hF)
      rw [upd_ne na]; exact R.sto.tr a hF
  refine ⟨⟨so, R.len, fun i d q => ?_, fun i m2 q => ?_, R.inj, ⟨R.base.toFz.trans z, fun a o' q ha => ?_, R.base.rN⟩, R.fN, R.noTup⟩, z⟩
  · obtain ⟨v, h1, h2⟩ := R.val i d q
    exact ⟨v, h1, h2.mono z⟩
  · obtain ⟨a, h1, h2, h3, h4, h5⟩ := R.own i m2 q
    exact ⟨a, h1, h2.mono z (upd_ne fun q => h5 (by rw [q]; exact hm)), h3, h4, h5⟩
  · have na : a ≠ p := fun q' => by
      subst q'
      rcases R.base.rN a hm with y | y
      · exact ha y
      · rw [q] at y; cases y
    rw [upd_ne na]
    exact R.base.oth a o' q ha
/-- a fresh object becomes the store's -/
theorem Rp.pub {mg : Str → Option Value} {w : WK} {g : Gh} {H : Hp} {σ : L2.St} {env : VEnv} {S : Sto} {m : M} {v : V} (R : Rp mg w B g0 g H σ env S) (r : RT mg w B g H σ env (.own m) v) :
    ∃ g', Fz g H g' H ∧ Rp mg w B g0 g' H σ env (S ++ [m]) ∧ Rep mg w g' H (.ref S.length) v := by
  obtain ⟨a, rfl, r1, r2, r3, r4, r5⟩ := r
  have z : Fz g H ⟨g.F, g.ρ ++ [a]⟩ H := ⟨fun _ _ h => h, fun _ _ => rfl, fun _ h => h, ⟨[a], rfl⟩⟩
  refine ⟨⟨g.F, g.ρ ++ [a]⟩, z, ?_, .ref (by show (g.ρ ++ [a])[S.length]? = some a; rw [← R.sto.len]; simp)⟩
  have so : StoOk mg w ⟨g.F, g.ρ ++ [a]⟩ H (S ++ [m]) := by
    refine ⟨by simp [R.sto.len], ?_, fun k b m2 h1 h2 => ?_, fun b hb => ?_, R.sto.tr⟩
    · show (g.ρ ++ [a]).Nodup
      rw [List.nodup_append]
      exact ⟨R.sto.nd, by simp, fun x hx y hy q => r4 (by simp at hy; rw [← hy, ← q]; exact hx)⟩
    · have h1 : (g.ρ ++ [a])[k]? = some b := h1
      by_cases hk : k < g.ρ.length
      · rw [List.getElem?_append_left hk] at h1
        rw [List.getElem?_append_left (by rw [← R.sto.len]; exact hk)] at h2
        exact (R.sto.at_ k b m2 h1 h2).mono z rfl
      · rw [List.getElem?_append_right (by omega)] at h1
        rw [List.getElem?_append_right (by rw [← R.sto.len]; omega)] at h2
        have e0 : k - g.ρ.length = 0 := by
          have := (List.getElem?_eq_some_iff.mp h1).1
          simpa using this
        rw [e0] at h1
        rw [← R.sto.len, e0] at h2
        cases h1; cases h2
        exact r1.mono z rfl
    · rcases List.mem_append.mp hb with q | q
      · exact R.sto.nF b q
      · rw [List.mem_singleton.mp q]; exact r3
  refine ⟨so, R.len, fun i d q => ?_, fun i m2 q => ?_, R.inj, ⟨R.base.toFz.trans z, R.base.oth, fun b hb => ?_⟩, R.fN, fun b hb => ?_⟩
  · obtain ⟨v, h1, h2⟩ := R.val i d q
    exact ⟨v, h1, h2.mono z⟩
  · obtain ⟨b, h1, h2, h3, h4, h5⟩ := R.own i m2 q
    refine ⟨b, h1, h2.mono z rfl, h3, h4, fun hb => ?_⟩
    rcases List.mem_append.mp hb with y | y
    · exact h5 y
    · rw [List.mem_singleton.mp y] at h1; exact r5 i m2 q h1
  · rcases List.mem_append.mp hb with q | q
    · exact R.base.rN b q
    · rw [List.mem_singleton.mp q]; exact .inr r2
  · rcases List.mem_append.mp hb with q | q
    · exact R.noTup b q
    · rw [List.mem_singleton.mp q, r2]; exact fun _ q => nomatch q
/-- x = e, e a fresh object that goes to the store -/
def wPub (i : Nat) (We : WE) : WS := fun D env S => We env S fun t env' S' => match t with
  | .own m => D.nx (env'.set i (some (.val (.ref S'.length)))) (S' ++ [m])
  | _ => False
theorem vs_pub {i : Nat} {x : Str} {pos' : Pos} {We : WE} (h : VE X B g0 e We) (hp : ∀ te, PE X e te → PS X (.Assign [.Name x pos'] e pos) (tAsg te (gName i))) : VS X B g0 (.Assign [.Name x pos'] e pos) (wPub i We) := by
  refine VS.of (fun _ _ _ _ k q => h.mono _ _ _ _ (fun t _ _ q => ?_) q) (hp _ h.pe) fun σ H env S g De R q => ⟨env, S, g, _, R, q, fun v H' ⟨g', t, env', S', st, R', rt, q⟩ => ?_⟩
  · split at q <;> first | exact k.nx _ _ q | exact q
  · dsimp only at q
    split at q
    · obtain ⟨g2, z2, R2, r2⟩ := R'.pub rt
      exact ⟨g2, _, _, st.toFz.trans z2, R2.put i r2, q⟩
    · exact q.elim
/-- x[k] = e, x a name: its own list, or the store's -/
def setD (ds : List D) (i : Int) (d : D) (K : List D → Prop) : Prop := match placeD ds.length i with
  | some j => K (ds.set j d)
  | none => False
def wSetIt (i : Nat) (We : WE) (Wk : WO) : WS := fun D env S => We env S fun t env1 S1 => match slot env1 i with
  | some (.own (.lst ds)) => Wk env1 S1 fun k env2 S2 => match k with
    | .int j => (slot env2 i = some (.own (.lst ds))) ∧ setD ds j t.d fun ds' => D.nx (env2.set i (some (.own (.lst ds')))) S2
    | _ => False
  | some (.val (.ref r)) => Wk env1 S1 fun k env2 S2 => match k, S2[r]? with
    | .int j, some (.lst ds) => setD ds j t.d fun ds' => D.nx env2 (S2.set r (.lst ds'))
    | _, _ => False
  | _ => False
theorem setD_mono {ds : List D} {i : Int} {d : D} {K K' : List D → Prop} (k : ∀ x, K x → K' x) (q : setD ds i d K) : setD ds i d K' := by
  unfold setD at q ⊢
  split at q <;> first | exact k _ q | exact q
theorem vs_setIt {i : Nat} {o k : Expr} {We : WE} {Wk : WO} {p : Pos} (he : VE X B g0 e We) (ho : PE X o (tVar i)) (hk : VO X B g0 k Wk)
    (hp : ∀ te to ti, PE X e te → PE X o to → PE X k ti → PS X (.Assign [.Subscript o k p] e pos) (tAsg te (gSub to ti rSetL))) : VS X B g0 (.Assign [.Subscript o k p] e pos) (wSetIt i We Wk) := by
  refine VS.of (fun _ _ _ _ kk q => he.mono _ _ _ _ (fun t _ _ q => ?_) q) (hp _ _ _ he.pe ho hk.pe) fun σ H env S g De R q => ?_
  · split at q
    · exact hk.mono _ _ _ _ (fun x _ _ q => by
        split at q
        · exact ⟨q.1, setD_mono (fun _ => kk.nx _ _) q.2⟩
        · exact q) q
    · exact hk.mono _ _ _ _ (fun x _ _ q => by
        split at q
        · exact setD_mono (fun _ => kk.nx _ _) q
        · exact q) q
    · exact q
  · refine ⟨env, S, g, _, R, q, fun v H1 ⟨g1, t, env1, S1, st1, R1, rt, q1⟩ => ?_⟩
    obtain ⟨g1', st1', R1', rv⟩ := rt.hold R1
    dsimp only at q1
    split at q1
    · rename_i ds hsl
      obtain ⟨a, hv, hm, _⟩ := R1'.own i _ (slot_get hsl)
      refine ⟨_, hv, env1, S1, g1', _, R1', q1, fun kv H2 ⟨g2, kd, env2, S2, st2, R2, t2, q2⟩ => ?_⟩
      dsimp only at q2
      split at q2
      · obtain ⟨hs2, q2⟩ := q2
        have hkv := (t2.cont R2.sto)
        have : kv = .int _ := Cont.int (by simpa [dr] using hkv)
        subst this
        unfold setD at q2
        split at q2
        · rename_i j hj
          obtain ⟨a2, hv2, ⟨vs, h1, h2⟩, n1, n2, n3⟩ := R2.own i _ (slot_get hs2)
          rw [hv] at hv2; cases hv2
          have rv2 := rv.mono st2.toFz
          have z := Fz.upd (g := g2) (u := HO.lst (vs.set j v)) h1 (fun _ q => nomatch q) n2
          obtain ⟨RP, z'⟩ := R2.mutOwn (m' := .lst (ds.set j t.d)) (slot_get hs2) hv ⟨_, upd_same, (RepAll.set rv2 j h2).mono z⟩
          exact ⟨a, vs, _, j, rfl, rfl, h1, by rw [← h2.length]; exact placeD_ix hj, g2, _, S2, ((st1.trans st1').trans st2).toFz.trans z', RP, q2⟩
        · exact q2.elim
      · exact q2.elim
    · rename_i r hsl
      obtain ⟨v0, hv, hr⟩ := R1'.val i _ (slot_get hsl)
      cases hr with
      | @ref _ a ha =>
        refine ⟨_, hv, env1, S1, g1', _, R1', q1, fun kv H2 ⟨g2, kd, env2, S2, st2, R2, t2, q2⟩ => ?_⟩
        dsimp only at q2
        split at q2
        · rename_i jj ds hS2
          have hkv := (t2.cont R2.sto)
          have : kv = .int _ := Cont.int (by simpa [dr] using hkv)
          subst this
          unfold setD at q2
          split at q2
          · rename_i j hj
            have ha2 := st2.toFz.get ha
            obtain ⟨vs, h1, h2⟩ := R2.sto.at_ r a _ ha2 hS2
            have rv2 := rv.mono st2.toFz
            have z := Fz.upd (g := g2) (u := HO.lst (vs.set j v)) h1 (fun _ q => nomatch q) (R2.sto.nF a (List.mem_of_getElem? ha2))
            obtain ⟨RP, z'⟩ := R2.mutSto (m' := .lst (ds.set j t.d)) hS2 ha2 ⟨_, upd_same, (RepAll.set rv2 j h2).mono z⟩
            exact ⟨a, vs, _, j, rfl, rfl, h1, by rw [← h2.length]; exact placeD_ix hj, g2, _, _, ((st1.trans st1').trans st2).toFz.trans z', RP, q2⟩
          · exact q2.elim
        · exact q2.elim
    · exact q1.elim
end
end VC

set_option Elab.async false
set_option linter.all false
set_option maxRecDepth 100000
set_option maxHeartbeats 4000000
/-! VN: append, built-ins. -/
namespace VC
open PySem PySem.Spec PyProof.Rows L2
section
variable {X : Cx} {B : Hp} {g0 : Gh} {e a b o : Expr} {es : List Expr} {pos apos : Pos}
/-- x.append(e), x a name: its own list -/
def wApp (i : Nat) (We : WE) : WS := fun D env S => match slot env i with
  | some (.own (.lst _)) => We env S fun t env1 S1 => match slot env1 i with
    | some (.own (.lst ds)) => ds.length < 1000000 ∧ D.nx (env1.set i (some (.own (.lst (ds ++ [t.d]))))) S1
    | _ => False
  | _ => False
theorem vs_app {i : Nat} {We : WE} (ho : PE X o (tVar i)) (he : VE X B g0 e We) (hbase : attributeBase o "append" X.env (eval o X.env) = eval o X.env := by rfl) (hline : (apos.endLine == pos.line) = true := by rfl)
    (hfew : ((backTo pos (starEach [e] X.env)).all (fun x => !x.1) && (backToKw pos (keywordEach [] X.env)).all (fun x => x.1.isSome)
      && decide (([e] : List Expr).length + ([] : List Keyword).length + (if ([] : List Keyword).isEmpty then 0 else 1) < 30)) = true := by rfl)
    (hs : starEach [e] X.env = (false, eval e X.env) :: starEach [] X.env := by rfl) (hplain : (backTo pos (starEach [] X.env)).any (·.1) = false := by rfl) {spos : Pos} (hsw : swapsWith (.Call (.Attribute o "append" apos) [e] [] pos) none spos.line X.env = pure false := by rfl) :
    VS X B g0 (.Expr (.Call (.Attribute o "append" apos) [e] [] pos) spos) (wApp i We) := by
  refine VS.of (fun _ _ _ _ k q => ?_) (ps_expr (pe_bm PySem.F.plainAttrs_list PySem.F.slot_list_append PySem.F.type_list_append mt_append ho (pa_cons he.pe pa_nil hs) hbase hfew hline hs hplain) hsw) fun σ H env S g De R q => ?_
  · unfold wApp at q ⊢
    split at q
    · refine he.mono _ _ _ _ (fun t _ _ q => ?_) q
      split at q
      · exact ⟨q.1, k.nx _ _ q.2⟩
      · exact q
    · exact q
  · unfold wApp at q
    split at q
    · rename_i ds0 hsl
      obtain ⟨a, hv, ⟨vs0, h10, _⟩, _⟩ := R.own i _ (slot_get hsl)
      refine ⟨_, hv, .inl ⟨rfl, vs0, SqL.of h10⟩, env, S, g, _, R, q, fun v H1 ⟨g1, t, env1, S1, st1, R1, rt, q1⟩ => ?_⟩
      obtain ⟨g2, st2, R2, rv⟩ := rt.hold R1
      dsimp only at q1
      split at q1
      · rename_i ds hs2
        obtain ⟨hl, q1⟩ := q1
        obtain ⟨a2, hv2, ⟨vs, h1, h2⟩, n1, n2, n3⟩ := R2.own i _ (slot_get hs2)
        rw [hv] at hv2; cases hv2
        have z := Fz.upd (g := g2) (u := HO.lst (vs ++ [v])) h1 (fun _ q => nomatch q) n2
        obtain ⟨RP, z'⟩ := R2.mutOwn (m' := .lst (ds ++ [t.d])) (slot_get hs2) hv ⟨_, upd_same, (h2.append (.cons rv .nil)).mono z⟩
        exact ⟨a, vs, v, rfl, rfl, h1, by rw [← h2.length]; exact Nat.lt_of_lt_of_le hl (by decide), g2, _, S1, (st1.trans st2).toFz.trans z', RP, q1⟩
      · exact q1.elim
    · exact q.elim

/-! ### built-ins -/
theorem ContAll.one {mg : Str → Option Value} {w : WK} {g : Gh} {H : Hp} {d : D} {vs : List V} (h : ContAll mg w g H [d] vs) : ∃ v, vs = [v] ∧ Cont mg w g H d v := by
  cases h with
  | cons h t => cases t; exact ⟨_, rfl, h⟩
theorem ContAll.two {mg : Str → Option Value} {w : WK} {g : Gh} {H : Hp} {d e : D} {vs : List V} (h : ContAll mg w g H [d, e] vs) : ∃ v u, vs = [v, u] ∧ Cont mg w g H d v ∧ Cont mg w g H e u := by
  cases h with
  | cons h t => cases t with | cons h' t => cases t; exact ⟨_, _, rfl, h, h'⟩
def opLen : ON
  | [.tup ds], K => K (.val (.int (ds.length : Int)))
  | [.lst ds], K => K (.val (.int (ds.length : Int)))
  | [.str x], K => x.length ≤ sizeLine ∧ K (.val (.int (x.length : Int)))
  | _, _ => False
theorem n_len : OpN X (.builtin "len") opLen := by
  refine ⟨fun ds K K' i q => ?_, fun pins s σ H g ds vs us K I tr c r q => ?_⟩
  · unfold opLen at q ⊢
    split at q <;> first | exact i _ q | exact ⟨q.1, i _ q.2⟩ | exact q
  · unfold opLen at q
    split at q
    · obtain ⟨v, rfl, c1⟩ := c.one
      obtain ⟨a, vs, rfl, h1, h2⟩ := c1.tup
      exact call_len pins s σ H _ us _ I r ⟨_, vs.length, rfl, .inr ⟨vs, SqT.at h1, rfl⟩, by rw [← h2.length]; exact rk_int q⟩
    · obtain ⟨v, rfl, c1⟩ := c.one
      obtain ⟨a, vs, rfl, h1, h2⟩ := c1.lst
      exact call_len pins s σ H _ us _ I r ⟨_, vs.length, rfl, .inl ⟨vs, .inl h1, rfl⟩, by rw [← h2.length]; exact rk_int q⟩
    · obtain ⟨v, rfl, c1⟩ := c.one
      rw [c1.str] at r
      exact call_len pins s σ H _ us _ I r ⟨_, _, rfl, ⟨q.1, rfl⟩, rk_int q.2⟩
    · exact q.elim
def opMin2 : ON
  | [.int i, .int j], K => K (.val (.int (if j < i then j else i)))
  | _, _ => False
def opMax2 : ON
  | [.int i, .int j], K => K (.val (.int (if j > i then j else i)))
  | _, _ => False
theorem n_min2 (hc : X.calm = true) : OpN X (.builtin "min") opMin2 := by
  refine ⟨fun ds K K' i q => ?_, fun pins s σ H g ds vs us K I tr c r q => ?_⟩
  · unfold opMin2 at q ⊢
    split at q <;> first | exact i _ q | exact q
  · unfold opMin2 at q
    split at q
    · obtain ⟨v, u, rfl, c1, c2⟩ := c.two
      rw [c1.int, c2.int] at r
      exact call_min2 hc pins s σ H _ us _ I r ⟨_, _, rfl, rk_int q⟩
    · exact q.elim
theorem n_max2 (hc : X.calm = true) : OpN X (.builtin "max") opMax2 := by
  refine ⟨fun ds K K' i q => ?_, fun pins s σ H g ds vs us K I tr c r q => ?_⟩
  · unfold opMax2 at q ⊢
    split at q <;> first | exact i _ q | exact q
  · unfold opMax2 at q
    split at q
    · obtain ⟨v, u, rfl, c1, c2⟩ := c.two
      rw [c1.int, c2.int] at r
      exact call_max2 hc pins s σ H _ us _ I r ⟨_, _, rfl, rk_int q⟩
    · exact q.elim
def opInt1 : ON
  | [.int i], K => K (.val (.int i))
  | [.bl k], K => K (.val (.int (if k then 1 else 0)))
  | _, _ => False
theorem n_int1 : OpN X (.type "int") opInt1 := by
  refine ⟨fun ds K K' i q => ?_, fun pins s σ H g ds vs us K I tr c r q => ?_⟩
  · unfold opInt1 at q ⊢
    split at q <;> first | exact i _ q | exact q
  · unfold opInt1 at q
    split at q
    · obtain ⟨v, rfl, c1⟩ := c.one
      rw [c1.int] at r
      exact call_int1 pins s σ H _ us _ I r (.inl ⟨_, rfl, rk_int q⟩)
    · obtain ⟨v, rfl, c1⟩ := c.one
      rw [c1.bl] at r
      exact call_int1 pins s σ H _ us _ I r (.inr ⟨_, rfl, rk_int q⟩)
    · exact q.elim
def opTuple : ON
  | [.lst ds], K => K (.val (.tup ds))
  | [.tup ds], K => K (.val (.tup ds))
  | _, _ => False
theorem n_tuple : OpN X (.type "tuple") opTuple := by
  refine ⟨fun ds K K' i q => ?_, fun pins s σ H g ds vs us K I tr c r q => ?_⟩
  · unfold opTuple at q ⊢
    split at q <;> first | exact i _ q | exact q
  · unfold opTuple at q
    split at q
    · obtain ⟨v, rfl, c1⟩ := c.one
      obtain ⟨a, vs, rfl, h1, h2⟩ := c1.lst
      exact call_tuple_of pins s σ H _ us _ I r ⟨a, vs, rfl, .inl ⟨.inl h1, fun l hl => rk_tup tr h2 hl q⟩⟩
    · obtain ⟨v, rfl, c1⟩ := c.one
      obtain ⟨a, vs, rfl, h1, h2⟩ := c1.tup
      exact call_tuple_of pins s σ H _ us _ I r ⟨a, vs, rfl, .inr ⟨SqT.at h1, rk_rep (.tup h1 h2) q⟩⟩
    · exact q.elim
def opList : ON
  | [.lst ds], K => K (.own (.lst ds))
  | [.tup ds], K => K (.own (.lst ds))
  | _, _ => False
theorem n_list : OpN X (.type "list") opList := by
  refine ⟨fun ds K K' i q => ?_, fun pins s σ H g ds vs us K I tr c r q => ?_⟩
  · unfold opList at q ⊢
    split at q <;> first | exact i _ q | exact q
  · unfold opList at q
    split at q
    · obtain ⟨v, rfl, c1⟩ := c.one
      obtain ⟨a, vs, rfl, h1, h2⟩ := c1.lst
      exact call_list_of pins s σ H _ us _ I r ⟨a, vs, rfl, .inl (.inl h1), fun l hl => rk_lst tr h2 hl q⟩
    · obtain ⟨v, rfl, c1⟩ := c.one
      obtain ⟨a, vs, rfl, h1, h2⟩ := c1.tup
      exact call_list_of pins s σ H _ us _ I r ⟨a, vs, rfl, .inr (SqT.at h1), fun l hl => rk_lst tr h2 hl q⟩
    · exact q.elim
/-- lists of ints, of truth values -/
def intsD : List D → Option (List Int)
  | [] => some []
  | .int i :: ds => (intsD ds).map (i :: ·)
  | _ :: _ => none
def blsD : List D → Option (List Bool)
  | [] => some []
  | .bl i :: ds => (blsD ds).map (i :: ·)
  | _ :: _ => none
theorem intsD_rep {mg : Str → Option Value} {w : WK} {g : Gh} {H : Hp} : ∀ {ds : List D} {ns : List Int} {vs : List V}, intsD ds = some ns → RepAll mg w g H ds vs → vs = ns.map V.int
  | [], ns, vs, h, r => by cases r; cases h; rfl
  | d :: ds, ns, _, h, r => by
    cases r with
    | @cons _ v _ vs r1 r2 =>
      cases d with
      | int i =>
        simp only [intsD, Option.map_eq_some_iff] at h
        obtain ⟨ms, h1, h2⟩ := h
        subst h2
        cases r1
        rw [intsD_rep h1 r2]; rfl
      | _ => simp [intsD] at h
theorem blsD_rep {mg : Str → Option Value} {w : WK} {g : Gh} {H : Hp} : ∀ {ds : List D} {ns : List Bool} {vs : List V}, blsD ds = some ns → RepAll mg w g H ds vs → vs = ns.map V.bl
  | [], ns, vs, h, r => by cases r; cases h; rfl
  | d :: ds, ns, _, h, r => by
    cases r with
    | @cons _ v _ vs r1 r2 =>
      cases d with
      | bl i =>
        simp only [blsD, Option.map_eq_some_iff] at h
        obtain ⟨ms, h1, h2⟩ := h
        subst h2
        cases r1
        rw [blsD_rep h1 r2]; rfl
      | _ => simp [blsD] at h
theorem intsD_map : ∀ ns : List Int, intsD (ns.map D.int) = some ns
  | [] => rfl
  | n :: ns => by simp [intsD, intsD_map ns]
theorem blsD_map : ∀ ns : List Bool, blsD (ns.map D.bl) = some ns
  | [] => rfl
  | n :: ns => by simp [blsD, blsD_map ns]
def opAll : ON
  | [.lst ds], K => ∃ bs, blsD ds = some bs ∧ K (.val (.bl (bs.all id)))
  | _, _ => False
theorem n_all (hc : X.calm = true) : OpN X (.builtin "all") opAll := by
  refine ⟨fun ds K K' i q => ?_, fun pins s σ H g ds vs us K I tr c r q => ?_⟩
  · unfold opAll at q ⊢
    split at q
    · obtain ⟨bs, h, q⟩ := q; exact ⟨bs, h, i _ q⟩
    · exact q
  · unfold opAll at q
    split at q
    · obtain ⟨v, rfl, c1⟩ := c.one
      obtain ⟨a, vs, rfl, h1, h2⟩ := c1.lst
      obtain ⟨bs, hb, q⟩ := q
      exact cr_all hc pins s σ H _ us _ I r ⟨a, bs, rfl, by rw [← blsD_rep hb h2]; exact .inl h1, rk_bl q⟩
    · exact q.elim
def opSum : ON
  | [.lst ds], K => ∃ ns, intsD ds = some ns ∧ K (.val (.int ns.sum))
  | _, _ => False
theorem n_sum (hc : X.calm = true) : OpN X (.builtin "sum") opSum := by
  refine ⟨fun ds K K' i q => ?_, fun pins s σ H g ds vs us K I tr c r q => ?_⟩
  · unfold opSum at q ⊢
    split at q
    · obtain ⟨bs, h, q⟩ := q; exact ⟨bs, h, i _ q⟩
    · exact q
  · unfold opSum at q
    split at q
    · obtain ⟨v, rfl, c1⟩ := c.one
      obtain ⟨a, vs, rfl, h1, h2⟩ := c1.lst
      obtain ⟨bs, hb, q⟩ := q
      exact cr_sum hc pins s σ H _ us _ I r ⟨a, bs, rfl, by rw [← intsD_rep hb h2]; exact .inl h1, rk_int q⟩
    · exact q.elim

/-! ### isinstance -/
def tyN : D → Option String
  | .non => some "NoneType"
  | .bl _ => some "bool"
  | .int _ => some "int"
  | .str _ => some "str"
  | .tup _ => some "tuple"
  | .lst _ => some "list"
  | .dct _ _ => none
  | .ref _ => none
  | .fn _ => none
  | .kst _ => none
def isInt : D → Option Bool
  | .bl _ => some true | .int _ => some true | .non => some false | .str _ => some false | .tup _ => some false | .lst _ => some false | .dct _ _ => none | .ref _ => none | .fn _ => none | .kst _ => none
def isBl : D → Option Bool
  | .bl _ => some true | .int _ => some false | .non => some false | .str _ => some false | .tup _ => some false | .lst _ => some false | .dct _ _ => none | .ref _ => none | .fn _ => none | .kst _ => none
def isStr : D → Option Bool
  | .bl _ => some false | .int _ => some false | .non => some false | .str _ => some true | .tup _ => some false | .lst _ => some false | .dct _ _ => none | .ref _ => none | .fn _ => none | .kst _ => none
def isTup : D → Option Bool
  | .bl _ => some false | .int _ => some false | .non => some false | .str _ => some false | .tup _ => some true | .lst _ => some false | .dct _ _ => none | .ref _ => none | .fn _ => none | .kst _ => none
def isLst : D → Option Bool
  | .bl _ => some false | .int _ => some false | .non => some false | .str _ => some false | .tup _ => some false | .lst _ => some true | .dct _ _ => none | .ref _ => none | .fn _ => none | .kst _ => none
theorem cont_ty {g : Gh} {H : Hp} {d : D} {x : V} {n : String} (c : Cont X.mg X.wk g H d x) (h : tyN d = some n) : TyX X.K H x (.type n) := by
  cases d with
  | non => cases h; rw [c.non]; exact .base .non
  | bl b => cases h; rw [c.bl]; exact .base (.bl b)
  | int i => cases h; rw [c.int]; exact .base (.int i)
  | str y => cases h; rw [c.str]; exact .base (.str y)
  | tup ds => cases h; obtain ⟨a, vs, rfl, h1, h2⟩ := c.tup; exact .base (.tup h1)
  | lst ds =>
    cases h; obtain ⟨a, vs, rfl, h1, h2⟩ := c.lst
    rcases h1 with h1 | ⟨o, h1⟩
    · exact .base (.lst h1)
    · exact .base (.frz h1)
  | _ => cases h
def wIsi (f : D → Option Bool) (Wo : WO) : WE := fun env S Q => Wo env S fun d env' S' => match f (dr S' d) with
  | some b => Q (.val (.bl b)) env' S'
  | none => False
theorem ve_isi {n : Str} {T : String} {f : D → Option Bool} {Wo : WO} {p p2 : Pos} (hf : ∀ d b, f d = some b → ∃ t, tyN d = some t ∧ kitB t T = some b) (hg : Gl X "isinstance") (hm : X.mg "isinstance" = none) (h : VO X B g0 e Wo)
    (hg2 : Gl X n) (hm2 : X.mg n = none) (hv : bootBuiltins n = some (.type T)) (hn : n ≠ "__name__" := by decide) (hdb : (n == ("__debug__" : Str)) = false := by decide)
    (hs : starEach [e, .Name n p2] X.env = (false, eval e X.env) :: starEach [.Name n p2] X.env := by rfl) (hs2 : starEach [.Name n p2] X.env = (false, eval (.Name n p2) X.env) :: starEach [] X.env := by rfl) (hpl : (backTo pos (starEach [.Name n p2] X.env)).any (·.1) = false := by rfl) :
    VE X B g0 (.Call (.Name "isinstance" p) [e, .Name n p2] [] pos) (wIsi f Wo) := by
  refine VE.of (fun _ _ _ _ i q => h.mono _ _ _ _ (fun d _ _ q => ?_) q) (pe_callB call_isi hg hm (by decide +kernel) (pa_cons h.pe (pa_cons (pe_bltn (v := .ty T) hg2 hm2 hv rfl hn hdb) pa_nil hs2) hs) (by decide) (by decide) hs hpl) fun σ H env S g Q R q => ?_
  · split at q <;> first | exact i _ _ _ q | exact q
  · refine ⟨env, S, g, _, R, q, fun v H1 ⟨g1, d, env1, S1, st1, R1, t1, q1⟩ => ?_⟩
    dsimp only at q1
    split at q1
    · rename_i b hb
      obtain ⟨t, h1, h2⟩ := hf _ _ hb
      exact ⟨v, .ty T, _, _, b, rfl, .ty T, cont_ty (t1.cont R1.sto) h1, kit_ty h2, g1, .val (.bl b), env1, S1, st1, R1, Rep.bl b, q1⟩
    · exact q1.elim
theorem hf_int : ∀ d b, isInt d = some b → ∃ t, tyN d = some t ∧ kitB t "int" = some b := fun d b h => by cases d <;> simp only [isInt] at h <;> first | (cases h; exact ⟨_, rfl, by decide +kernel⟩) | cases h
theorem hf_bl : ∀ d b, isBl d = some b → ∃ t, tyN d = some t ∧ kitB t "bool" = some b := fun d b h => by cases d <;> simp only [isBl] at h <;> first | (cases h; exact ⟨_, rfl, by decide +kernel⟩) | cases h
theorem hf_str : ∀ d b, isStr d = some b → ∃ t, tyN d = some t ∧ kitB t "str" = some b := fun d b h => by cases d <;> simp only [isStr] at h <;> first | (cases h; exact ⟨_, rfl, by decide +kernel⟩) | cases h
theorem hf_tup : ∀ d b, isTup d = some b → ∃ t, tyN d = some t ∧ kitB t "tuple" = some b := fun d b h => by cases d <;> simp only [isTup] at h <;> first | (cases h; exact ⟨_, rfl, by decide +kernel⟩) | cases h
theorem hf_lst : ∀ d b, isLst d = some b → ∃ t, tyN d = some t ∧ kitB t "list" = some b := fun d b h => by cases d <;> simp only [isLst] at h <;> first | (cases h; exact ⟨_, rfl, by decide +kernel⟩) | cases h
theorem bb_int : bootBuiltins "int" = some (.type "int") := by decide +kernel
theorem bb_bool : bootBuiltins "bool" = some (.type "bool") := by decide +kernel
theorem bb_str : bootBuiltins "str" = some (.type "str") := by decide +kernel
theorem bb_tuple : bootBuiltins "tuple" = some (.type "tuple") := by decide +kernel
theorem bb_list : bootBuiltins "list" = some (.type "list") := by decide +kernel
theorem bb_len : bootBuiltins "len" = some (.builtin "len") := by decide +kernel
theorem bb_min : bootBuiltins "min" = some (.builtin "min") := by decide +kernel
theorem bb_max : bootBuiltins "max" = some (.builtin "max") := by decide +kernel
theorem bb_all : bootBuiltins "all" = some (.builtin "all") := by decide +kernel
theorem bb_sum : bootBuiltins "sum" = some (.builtin "sum") := by decide +kernel
/-- a constant of the module -/
theorem ve_gi {x : Str} {i : Int} (hg : Gl X x) (hm : ∃ t, X.mg x = some (.int i t)) (hd : (x == ("__debug__" : Str)) = false := by decide) : VE X B g0 (.Name x pos) (wC (.int i)) := by
  obtain ⟨t, hm⟩ := hm
  exact ve_c (pe_glob (v := .int i) hg hm ⟨t, rfl⟩ hd) fun _ _ _ => .int i
theorem ve_gs {x : Str} {z : Str} (hg : Gl X x) (hm : ∃ t, X.mg x = some (.str z t)) (hd : (x == ("__debug__" : Str)) = false := by decide) : VE X B g0 (.Name x pos) (wC (.str z)) := by
  obtain ⟨t, hm⟩ := hm
  exact ve_c (pe_glob (v := .str z) hg hm ⟨t, rfl⟩ hd) fun _ _ _ => .str z
end
end VC

set_option Elab.async false
set_option linter.all false
set_option maxRecDepth 100000
set_option maxHeartbeats 4000000
/-! VO: walks over lists or tuples; targets' lengths; results of an assignment to several names that stay own. -/
namespace VC
open PySem PySem.Spec PyProof.Rows L2
section
variable {X : Cx} {B : Hp} {g0 : Gh} {tg e a b c : Expr} {es : List Expr} {pos : Pos}
/-! ### a list or a tuple walked -/
def Itk (K : PySem.W.Frag) : Bool → Addr → It
  | true, a => Itl K a
  | false, a => Itt K a
def iSqX (K : PySem.W.Frag) (tl : TE) : TI := fun σ H R => tl σ H fun x H1 => ∃ a xs isL, x = .ref a ∧ SqK isL H1 a xs ∧ R (Itk K isL a) H1
theorem pi_sq {te : TE} (he : PE X e te) : PI X tg e (iSqX X.K te) := by
  refine ⟨fun pins s σ H R I h => ?_⟩
  refine thn (he.run pins s σ H _ I h) fun v s1 ⟨x, H1, I1, r1, q1⟩ => ?_
  obtain ⟨a, xs, isL, ex, hq, q⟩ := q1
  subst ex
  cases r1
  cases isL with
  | true =>
    obtain ⟨its, rv, p, hz⟩ := I1.list (.inl hq)
    refine wpAny_pyIter_list p.isList ?_
    refine ⟨s1.heap.objs.size, [s1.heap.objs.size], _, _, H1, rfl, I1.kept (t' := s1.toks) fun b o e => Heap.get?_push_of_some _ e, turn_list a _, ⟨_, Heap.get?_push_size _ rfl, rfl, rfl⟩, fun b hb => ?_, q⟩
    have e : b = s1.heap.objs.size := by simpa using hb
    subst e
    exact I1.fpOk (Nat.le_refl _) (I1.hok.fresh (Nat.le_refl _))
  | false =>
    obtain ⟨its, rv, p, hz⟩ := I1.tuple (SqT.at hq)
    refine wpAny_pyIter_tuple (show s1.heap.IsTuple a its.toArray from p) ?_
    refine ⟨s1.heap.objs.size, [s1.heap.objs.size], _, _, H1, rfl, I1.kept (t' := s1.toks) fun b o e => Heap.get?_push_of_some _ e, turn_tuple a _, ⟨_, Heap.get?_push_size _ rfl, rfl, rfl⟩, fun b hb => ?_, q⟩
    have e : b = s1.heap.objs.size := by simpa using hb
    subst e
    exact I1.fpOk (Nat.le_refl _) (I1.hok.fresh (Nat.le_refl _))
def iS (W : WE) : WA := fun env S Q => W env S fun t env' S' => sqD t.d fun ds => Q ds env' S'
theorem vi_sq {W : WE} (h : VE X B g0 e W) : VI X B g0 tg e (iS W) := by
  refine VI.of (fun _ _ _ _ i q => h.mono _ _ _ _ (fun _ _ _ q => sqD_mono (fun _ => i _ _ _) q) q) (pi_sq h.pe) fun σ H env S g Q R q => ?_
  refine ⟨env, S, g, _, R, q, fun v H1 ⟨g1, t, env1, S1, st1, R1, rt, q1⟩ => ?_⟩
  obtain ⟨g2, st2, R2, rp⟩ := rt.hold R1
  obtain ⟨ds, hd, q1⟩ := sqD_of q1
  rcases hd with hd | hd
  · rw [hd] at rp
    cases rp with
    | @lst a vs ds h0 h1 h2 => exact ⟨a, vs, true, rfl, h1, g2, _, env1, S1, st1.trans st2, R2, jok_lst h0 h1 h2, q1⟩
  · rw [hd] at rp
    cases rp with
    | @tup a vs ds h1 h2 => exact ⟨a, vs, false, rfl, h1, g2, _, env1, S1, st1.trans st2, R2, jok_tup h1 h2, q1⟩

/-! ### targets' lengths -/
def ExG (G : WG) : Prop := ∀ d env S Q, G d env S Q → ∃ e s, Q e s
def LenG (Gs : WGs) (n : Nat) : Prop := ∀ ds env S Q, Gs ds env S Q → ds.length = n ∧ ∃ e s, Q e s
theorem exN {i : Nat} : ExG (gN i) := fun _ _ _ _ q => ⟨_, _, q⟩
theorem lenN : LenG gNl 0 := fun ds env S Q q => by
  cases ds with
  | nil => exact ⟨rfl, _, _, q⟩
  | cons _ _ => exact q.elim
theorem lenC {G : WG} {Gs : WGs} {n : Nat} (h : ExG G) (hs : LenG Gs n) : LenG (gCs G Gs) (n + 1) := fun ds env S Q q => by
  cases ds with
  | nil => exact q.elim
  | cons d ds =>
    obtain ⟨e, s, q⟩ := h _ _ _ _ q
    obtain ⟨h1, h2⟩ := hs _ _ _ _ q
    exact ⟨by rw [List.length_cons, h1], h2⟩
theorem exT {Gs : WGs} {n : Nat} (h : LenG Gs n) : ExG (gT Gs) := fun d env S Q q => by
  unfold gT at q
  split at q
  · exact (h _ _ _ _ q).2
  · exact q.elim
theorem vg_tupL {es : List Expr} {k : Nat} {pos : Pos} {is : List Nat} {Gs : WGs} {n : Nat} (hc : X.calm = true) (h : VGs X B g0 is es Gs) (hl : LenG Gs n)
    (hn : (assignEach es X.env).length = n := by rfl) (hst : (assignEach es X.env).findIdx? (·.1) = none := by rfl) : VG X B g0 is (.Tuple es k pos) (gT Gs) :=
  vg_tup hc h (fun ds env S Q q => (hl ds env S Q q).1) hn hst

/-! ### several results, each held or own -/
abbrev WL := WX (List T)
inductive RTs (mg : Str → Option Value) (w : WK) (B : Hp) (g : Gh) (H : Hp) (σ : L2.St) (env : VEnv) : List T → List V → Prop
  | nil : RTs mg w B g H σ env [] []
  | cons {t v ts vs} : RT mg w B g H σ env t v → (∀ m a, t = .own m → v = .ref a → ∀ (j : Nat) m', ts[j]? = some (T.own m') → vs[j]? ≠ some (V.ref a)) → RTs mg w B g H σ env ts vs → RTs mg w B g H σ env (t :: ts) (v :: vs)
def LQ (X : Cx) (B : Hp) (g0 : Gh) (g : Gh) (H : Hp) (σ : L2.St) (Q : List T → VEnv → Sto → Prop) : List V → Hp → Prop := fun vs H' => ∃ g' ts env' S', Stp g H g' H' ∧ Rp X.mg X.wk B g0 g' H' σ env' S' ∧ RTs X.mg X.wk B g' H' σ env' ts vs ∧ Q ts env' S'
def tL (X : Cx) (B : Hp) (g0 : Gh) (W : WL) : TA := fun σ H Q => ∃ env S g Q0, Rp X.mg X.wk B g0 g H σ env S ∧ W env S Q0 ∧ ∀ v H', LQ X B g0 g H σ Q0 v H' → Q v H'
structure VLs (X : Cx) (B : Hp) (g0 : Gh) (es : List Expr) (W : WL) : Prop where
  mono : Mo W
  pa : PA X es (tL X B g0 W)
def wL0 : WL := fun env S Q => Q [] env S
def wLC (We : WE) (Wr : WL) : WL := fun env S Q => We env S fun t env1 S1 => Wr env1 S1 fun ts env2 S2 => Q (t :: ts) env2 S2
theorem VLs.of {W : WL} {t : TA} (mono : Mo W) (h : PA X es t)
    (imp : ∀ σ H env S g Q, Rp X.mg X.wk B g0 g H σ env S → W env S Q → t σ H (LQ X B g0 g H σ Q)) : VLs X B g0 es W :=
  ⟨mono, ⟨fun pos pins s σ H Q I ⟨env, S, g, Q0, R, hW, i⟩ => thn (h.run pos pins s σ H _ I (imp σ H env S g Q0 R hW)) fun u s' ⟨vs, H', I', r, q⟩ => ⟨vs, H', I', r, i _ _ q⟩⟩⟩
theorem vl_nil : VLs X B g0 [] wL0 := VLs.of (fun _ _ _ _ i q => i _ _ _ q) pa_nil fun σ H env S g Q R q => ⟨g, [], env, S, Stp.refl g H, R, .nil, q⟩
theorem RTs.len {mg : Str → Option Value} {w : WK} {B : Hp} {g : Gh} {H : Hp} {σ : L2.St} {env : VEnv} : ∀ {ts : List T} {vs : List V}, RTs mg w B g H σ env ts vs → ts.length = vs.length
  | _, _, .nil => rfl
  | _, _, .cons _ _ h => by rw [List.length_cons, List.length_cons, h.len]
theorem RTs.own {mg : Str → Option Value} {w : WK} {B : Hp} {g : Gh} {H : Hp} {σ : L2.St} {env : VEnv} : ∀ {ts : List T} {vs : List V}, RTs mg w B g H σ env ts vs → ∀ (j : Nat) m, ts[j]? = some (T.own m) → ∃ a, vs[j]? = some (V.ref a) ∧ B a = none
  | _, _, .nil, j, m, h => by simp at h
  | _, _, .cons (t := t) r _ _, 0, m, h => by
    simp at h; subst h
    obtain ⟨a, rfl, _, h, _⟩ := r
    exact ⟨a, rfl, h⟩
  | _, _, .cons _ _ r, j + 1, m, h => RTs.own r j m (by simpa using h)
theorem RTs.unbase {mg : Str → Option Value} {w : WK} {B : Hp} {g g' : Gh} {H H' : Hp} {σ : L2.St} {env env' : VEnv} {S : Sto} (R : Rp mg w B g0 g H σ env S) : ∀ {ts : List T} {vs : List V}, RTs mg w (reB H σ env) g' H' σ env' ts vs → RTs mg w B g' H' σ env' ts vs
  | _, _, .nil => .nil
  | _, _, .cons (t := t) r n rs => by
    refine .cons ?_ n (RTs.unbase R rs)
    cases t with
    | val d => exact r
    | own m =>
      obtain ⟨a, h1, h2, h3, h4⟩ := r
      refine ⟨a, h1, h2, ?_, h4⟩
      rcases reB_none h3 with k | k
      · exact (R.ownAt k).1
      · exact R.bn k
theorem vl_cons {We : WE} {Wr : WL} (h : VE X B g0 e We) (hr : ∀ B' g', VLs X B' g' es Wr) (hs : starEach (e :: es) X.env = (false, eval e X.env) :: starEach es X.env := by rfl) : VLs X B g0 (e :: es) (wLC We Wr) := by
  have mr : Mo Wr := (hr B g0).mono
  let tu : TA := fun σ H Q => ∃ B' g', tL X B' g' Wr σ H Q
  have pu : PA X es tu := ⟨fun pos pins s σ H Q I ⟨B', g', h⟩ => (hr B' g').pa.run pos pins s σ H Q I h⟩
  refine VLs.of (fun _ _ _ _ i q => h.mono _ _ _ _ (fun _ _ _ q => mr _ _ _ _ (fun _ _ _ q => i _ _ _ q) q) q) (pa_cons h.pe pu hs) fun σ H env S g Q R q => ?_
  refine ⟨env, S, g, _, R, q, fun v H1 ⟨g1, t, env1, S1, st1, R1, rt, q1⟩ => ?_⟩
  refine ⟨reB H1 σ env1, g1, env1, S1, g1, _, R1.rebase, q1, fun vs H2 ⟨g2, ts, env2, S2, st2, R2, rts, q2⟩ => ?_⟩
  refine ⟨g2, t :: ts, env2, S2, st1.trans st2, R1.unbase R2, ?_, q2⟩
  cases t with
  | val d => exact .cons (Rep.mono st2.toFz rt) (fun m a e => nomatch e) (rts.unbase R1)
  | own m =>
    obtain ⟨a, rfl, r1, r2, r3, r4, r5⟩ := rt
    obtain ⟨o, ho, hnt⟩ := r1.there
    have no : ¬ OwnAt σ env1 a := fun ⟨i, m', e1, e2⟩ => r5 i m' e1 e2
    obtain ⟨k1, k2, k3, k4⟩ := R2.apart ho no r3 r4
    refine .cons ⟨a, rfl, r1.mono st2.toFz (k1.trans ho.symm), r2, k3, k4, fun i m' e1 e2 => k2 ⟨i, m', e1, e2⟩⟩ (fun m0 a0 _ e j m' hj hv => ?_) (rts.unbase R1)
    cases e
    obtain ⟨b, hb, hn⟩ := rts.own j m' hj
    rw [hv] at hb; cases hb
    rw [reB_ne no, ho] at hn; cases hn
/-- a, b = e1, e2 -/
def wPr2 (i j : Nat) (W : WL) : WS := fun D env S => W env S fun ts env' S' => match ts with
  | [d, f] => D.nx ((env'.set i (some d)).set j (some f)) S'
  | _ => False
theorem RT.put {mg : Str → Option Value} {w : WK} {B : Hp} {g : Gh} {H : Hp} {σ : L2.St} {env : VEnv} {i : Nat} {t d : T} {v u : V} (hl : env.length = σ.length) (r : RT mg w B g H σ env t v) (n : ∀ m a, d = .own m → u = .ref a → ∀ m', t = .own m' → v ≠ .ref a)
    (hd : ∀ m, d = .own m → ∃ a, u = .ref a) : RT mg w B g H (σ.set i (some u)) (env.set i (some d)) t v := by
  cases t with
  | val d => exact r
  | own m =>
    obtain ⟨a, h1, h2, h3, h4, h5, h6⟩ := r
    refine ⟨a, h1, h2, h3, h4, h5, fun k m' e q => ?_⟩
    by_cases hk : i = k
    · subst hk
      have hi : i < env.length := by
        have := (List.getElem?_eq_some_iff.mp e).1
        rwa [List.length_set] at this
      rw [List.getElem?_set_self hi] at e
      rw [List.getElem?_set_self (by omega)] at q
      cases e; cases q
      exact n m' a rfl rfl m rfl h1
    · rw [List.getElem?_set_ne hk] at e q
      exact h6 k m' e q
theorem RT.isref {mg : Str → Option Value} {w : WK} {B : Hp} {g : Gh} {H : Hp} {σ : L2.St} {env : VEnv} {d : T} {v : V} (r : RT mg w B g H σ env d v) : ∀ m, d = .own m → ∃ a, v = .ref a := fun m e => by
  subst e; obtain ⟨a, h, _⟩ := r; exact ⟨a, h⟩
theorem vs_pr2 {i j : Nat} {x y : Str} {px py pt pt2 : Pos} {kt k2 : Nat} {W : WL} (h : VLs X B g0 [a, b] W) (hp : ∀ ta, PA X [a, b] ta → PS X (.Assign [.Tuple [.Name x px, .Name y py] kt pt] (.Tuple [a, b] k2 pt2) pos) (tPar i j ta)) :
    VS X B g0 (.Assign [.Tuple [.Name x px, .Name y py] kt pt] (.Tuple [a, b] k2 pt2) pos) (wPr2 i j W) := by
  refine VS.of (fun _ _ _ _ k q => h.mono _ _ _ _ (fun ds _ _ q => ?_) q) (hp _ h.pa) fun σ H env S g De R q => ?_
  · split at q <;> first | exact k.nx _ _ q | exact q.elim
  · refine ⟨env, S, g, _, R, q, fun vs H1 ⟨g1, ds, env1, S1, st1, R1, ra, q1⟩ => ?_⟩
    dsimp only at q1
    split at q1
    · cases ra with
      | cons r1 n1 ra =>
        cases ra with
        | cons r2 n2 ra =>
          cases ra
          refine ⟨_, _, rfl, g1, _, S1, st1.toFz, (R1.putOwn i r1).putOwn j (r2.put R1.len (fun m a e1 e2 m' e3 e4 => n1 m a e1 e2 0 m' (by simp [e3]) (by simp [e4])) r1.isref), q1⟩
    · exact q1.elim
def wPr3 (i j l : Nat) (W : WL) : WS := fun D env S => W env S fun ts env' S' => match ts with
  | [d, f, h] => D.nx (((env'.set i (some d)).set j (some f)).set l (some h)) S'
  | _ => False
theorem vs_pr3 {i j l : Nat} {x y z : Str} {px py pz pt pt2 : Pos} {kt k2 : Nat} {W : WL} (h : VLs X B g0 [a, b, c] W) (hp : ∀ ta, PA X [a, b, c] ta → PS X (.Assign [.Tuple [.Name x px, .Name y py, .Name z pz] kt pt] (.Tuple [a, b, c] k2 pt2) pos) (tPar3 i j l ta)) :
    VS X B g0 (.Assign [.Tuple [.Name x px, .Name y py, .Name z pz] kt pt] (.Tuple [a, b, c] k2 pt2) pos) (wPr3 i j l W) := by
  refine VS.of (fun _ _ _ _ k q => h.mono _ _ _ _ (fun ds _ _ q => ?_) q) (hp _ h.pa) fun σ H env S g De R q => ?_
  · split at q <;> first | exact k.nx _ _ q | exact q.elim
  · refine ⟨env, S, g, _, R, q, fun vs H1 ⟨g1, ds, env1, S1, st1, R1, ra, q1⟩ => ?_⟩
    dsimp only at q1
    split at q1
    · cases ra with
      | cons r1 n1 ra =>
        cases ra with
        | cons r2 n2 ra =>
          cases ra with
          | cons r3 n3 ra =>
            cases ra
            refine ⟨_, _, _, rfl, g1, _, S1, st1.toFz, ((R1.putOwn i r1).putOwn j (r2.put R1.len (fun m a e1 e2 m' e3 e4 => n1 m a e1 e2 0 m' (by simp [e3]) (by simp [e4])) r1.isref)).putOwn l ?_, q1⟩
            refine RT.put (by rw [List.length_set, List.length_set]; exact R1.len) (r3.put R1.len (fun m a e1 e2 m' e3 e4 => n1 m a e1 e2 1 m' (by simp [e3]) (by simp [e4])) r1.isref) (fun m a e1 e2 m' e3 e4 => n2 m a e1 e2 0 m' (by simp [e3]) (by simp [e4])) r2.isref
    · exact q1.elim
/-- a negative constant -/
theorem ve_neg {i : Int} {k : Nat} {p : Pos} : VE X B g0 (.UnaryOp .USub (.Constant (.int i) k p) pos) (wC (.int (-i))) :=
  VE.of (fun _ _ _ _ i q => i _ _ _ q) (pe_un un_neg pe_int) fun σ H env S g Q R q => ⟨i, rfl, g, .val (.int (-i)), env, S, Stp.refl g H, R, .int _, q⟩
end
end VC

set_option Elab.async false
set_option linter.all false
set_option maxRecDepth 100000
set_option maxHeartbeats 4000000
/-! VP: x in a list or tuple of data; the built-in names. -/
namespace VC
open PySem PySem.Spec PyProof.Rows L2
section
variable {X : Cx}
def opIn (neg : Bool) : O2
  | d, .tup es, K => (d.cmp = true ∧ (D.tup es).cmp = true) ∧ K (.val (.bl (if neg then !es.any fun z => D.eqv z d else es.any fun z => D.eqv z d)))
  | d, .lst es, K => (d.cmp = true ∧ (D.lst es).cmp = true) ∧ K (.val (.bl (if neg then !es.any fun z => D.eqv z d else es.any fun z => D.eqv z d)))
  | _, _, _ => False
theorem opIn_mono (neg : Bool) : Mo2 (opIn neg) := fun d e K K' i q => by
  unfold opIn at q ⊢
  split at q <;> first | exact ⟨q.1, i _ q.2⟩ | exact q.elim
theorem any_pds (d : D) (hd : d.isData = true) : ∀ es : List D, D.allData es = true → ((D.pds es).any fun z => PyData.eqv z d.pd) = es.any fun z => D.eqv z d
  | [], _ => by simp [D.pds]
  | e :: es, h => by
    simp only [D.allData, Bool.and_eq_true] at h
    simp only [D.pds, List.any_cons]
    rw [any_pds d hd es h.2, eqv_pd e d h.1 hd]
theorem o_in (hu : X.A.units + 65 < cLine) : Op2 X (compareOp .In) (opIn false) := by
  refine ⟨opIn_mono _, fun pins s σ H g d e x y v u K I tr c1 c2 r1 r2 q => ?_⟩
  unfold opIn at q
  split at q
  · obtain ⟨⟨q1, q2⟩, q⟩ := q
    simp only [D.cmp, D.isData, Bool.and_eq_true] at q1 q2
    obtain ⟨as, e1⟩ := Dp.reads I _ x v (c1.dp q1.1) r1
    obtain ⟨bs, e2⟩ := Dp.reads I _ y u (c2.dp (by simpa [D.isData] using q2.1)) r2
    rw [← any_pds _ q1.1 _ q2.1] at q
    exact SeqAt.in_tuple_reads e2 e1 (SeqAt.canLay_of_shaped q2.2) (SeqAt.canLay_of_shaped q1.2) (room_in_shaped q1.2 hu) ⟨.bl _, H, I, rfl, rk_bl q⟩
  · obtain ⟨⟨q1, q2⟩, q⟩ := q
    simp only [D.cmp, D.isData, Bool.and_eq_true] at q1 q2
    obtain ⟨as, e1⟩ := Dp.reads I _ x v (c1.dp q1.1) r1
    obtain ⟨bs, e2⟩ := Dp.reads I _ y u (c2.dp (by simpa [D.isData] using q2.1)) r2
    rw [← any_pds _ q1.1 _ q2.1] at q
    exact SeqAt.in_list_reads e2 e1 (SeqAt.canLay_of_shaped q2.2) (SeqAt.canLay_of_shaped q1.2) (room_in_shaped q1.2 hu) ⟨.bl _, H, I, rfl, rk_bl q⟩
  · exact q.elim
theorem o_notin (hu : X.A.units + 65 < cLine) : Op2 X (compareOp .NotIn) (opIn true) := by
  refine ⟨opIn_mono _, fun pins s σ H g d e x y v u K I tr c1 c2 r1 r2 q => ?_⟩
  unfold opIn at q
  split at q
  · obtain ⟨⟨q1, q2⟩, q⟩ := q
    simp only [D.cmp, D.isData, Bool.and_eq_true] at q1 q2
    obtain ⟨as, e1⟩ := Dp.reads I _ x v (c1.dp q1.1) r1
    obtain ⟨bs, e2⟩ := Dp.reads I _ y u (c2.dp (by simpa [D.isData] using q2.1)) r2
    rw [← any_pds _ q1.1 _ q2.1] at q
    exact SeqAt.notIn_tuple_reads e2 e1 (SeqAt.canLay_of_shaped q2.2) (SeqAt.canLay_of_shaped q1.2) (room_in_shaped q1.2 hu) ⟨.bl _, H, I, rfl, rk_bl q⟩
  · obtain ⟨⟨q1, q2⟩, q⟩ := q
    simp only [D.cmp, D.isData, Bool.and_eq_true] at q1 q2
    obtain ⟨as, e1⟩ := Dp.reads I _ x v (c1.dp q1.1) r1
    obtain ⟨bs, e2⟩ := Dp.reads I _ y u (c2.dp (by simpa [D.isData] using q2.1)) r2
    rw [← any_pds _ q1.1 _ q2.1] at q
    exact SeqAt.notIn_list_reads e2 e1 (SeqAt.canLay_of_shaped q2.2) (SeqAt.canLay_of_shaped q1.2) (room_in_shaped q1.2 hu) ⟨.bl _, H, I, rfl, rk_bl q⟩
  · exact q.elim
theorem _root_.L2.Room.u65 {k : Nat} {A : Around} (r : Room k A) : A.units + 65 < cLine := by have := r.un; omega
end
/-- the built-in names that no module of the program takes -/
structure Nob (mg : Str → Option Value) : Prop where
  len : mg "len" = none
  min : mg "min" = none
  max : mg "max" = none
  int : mg "int" = none
  isinstance : mg "isinstance" = none
  tuple : mg "tuple" = none
  list : mg "list" = none
  all : mg "all" = none
  sum : mg "sum" = none
  bool : mg "bool" = none
  str : mg "str" = none
  range : mg "range" = none
  zip : mg "zip" = none
  enumerate : mg "enumerate" = none
  sorted : mg "sorted" = none
  set : mg "set" = none
  dict : mg "dict" = none
  abs : mg "abs" = none
end VC

set_option Elab.async false
set_option linter.all false
set_option maxRecDepth 100000
set_option maxHeartbeats 4000000
/-! VQ: data that may be compared; loops by induction. -/
namespace VC
open PySem PySem.Spec PyProof.Rows L2
mutual
/-- data of depth n at most, no bool, texts as they may be -/
def okd : D → Nat → Bool
  | .non, _ => true
  | .int _, _ => true
  | .str x, _ => PyData.strOk x
  | .tup xs, n => match n with
    | 0 => false
    | n + 1 => okds xs n
  | .lst xs, n => match n with
    | 0 => false
    | n + 1 => okds xs n
  | .bl _, _ => false
  | .dct _ _, _ => false
  | .ref _, _ => false
  | .fn _, _ => false
  | .kst _, _ => false
def okds : List D → Nat → Bool
  | [], _ => true
  | x :: xs, n => okd x n && okds xs n
end
mutual
theorem okd_lay : ∀ (d : D) (n : Nat), okd d n = true → d.isData = true ∧ d.pd.canLay0 = true ∧ d.pd.depth ≤ n
  | .non, _, _ => by simp [D.isData, D.pd, PyData.canLay0, PyData.depth]
  | .int _, _, _ => by simp [D.isData, D.pd, PyData.canLay0, PyData.depth]
  | .str x, _, h => by simp [okd] at h; simp [D.isData, D.pd, PyData.canLay0, PyData.depth, h]
  | .tup xs, n, h => by
    cases n with
    | zero => simp [okd] at h
    | succ n =>
      simp only [okd] at h
      obtain ⟨h1, h2, h3⟩ := okds_lay xs n h
      simp only [D.isData, D.pd, PyData.canLay0, PyData.depth]
      exact ⟨h1, h2, Nat.succ_le_succ h3⟩
  | .lst xs, n, h => by
    cases n with
    | zero => simp [okd] at h
    | succ n =>
      simp only [okd] at h
      obtain ⟨h1, h2, h3⟩ := okds_lay xs n h
      simp only [D.isData, D.pd, PyData.canLay0, PyData.depth]
      exact ⟨h1, h2, Nat.succ_le_succ h3⟩
  | .bl _, _, h => by simp [okd] at h
  | .dct _ _, _, h => by simp [okd] at h
  | .ref _, _, h => by simp [okd] at h
  | .fn _, _, h => by simp [okd] at h
  | .kst _, _, h => by simp [okd] at h
theorem okds_lay : ∀ (ds : List D) (n : Nat), okds ds n = true → D.allData ds = true ∧ PyData.canLayAll0 (D.pds ds) = true ∧ PyData.depthAll (D.pds ds) ≤ n
  | [], _, _ => by simp [D.allData, D.pds, PyData.canLayAll0, PyData.depthAll]
  | x :: xs, n, h => by
    simp only [okds, Bool.and_eq_true] at h
    obtain ⟨h1, h2, h3⟩ := okd_lay x n h.1
    obtain ⟨k1, k2, k3⟩ := okds_lay xs n h.2
    simp only [D.allData, D.pds, PyData.canLayAll0, PyData.depthAll, Bool.and_eq_true]
    exact ⟨⟨h1, k1⟩, ⟨h2, k2⟩, Nat.max_le.mpr ⟨h3, k3⟩⟩
end
theorem okd_cmp {d : D} {n : Nat} (h : okd d n = true) (hn : n ≤ 64 := by decide) : d.cmp = true := by
  obtain ⟨h1, h2, h3⟩ := okd_lay d n h
  simp only [D.cmp, SeqAt.shaped, Bool.and_eq_true, decide_eq_true_eq]
  exact ⟨h1, h2, Nat.le_trans h3 hn⟩
mutual
theorem eqv_iff : ∀ (d e : D) (n m : Nat), okd d n = true → okd e m = true → (D.eqv d e = true ↔ d = e)
  | .non, e, n, m, _, h => by cases e <;> simp [D.eqv, okd] at h ⊢
  | .int i, e, n, m, _, h => by cases e <;> simp [D.eqv, okd] at h ⊢
  | .str i, e, n, m, _, h => by cases e <;> simp [D.eqv, okd] at h ⊢
  | .tup xs, e, n, m, k, h => by
    cases n with
    | zero => simp [okd] at k
    | succ n =>
      cases e with
      | tup ys =>
        cases m with
        | zero => simp [okd] at h
        | succ m =>
          simp only [okd] at k h
          simp only [D.eqv, D.tup.injEq]
          exact eqvs_iff xs ys n m k h
      | _ => simp [D.eqv]
  | .lst xs, e, n, m, k, h => by
    cases n with
    | zero => simp [okd] at k
    | succ n =>
      cases e with
      | lst ys =>
        cases m with
        | zero => simp [okd] at h
        | succ m =>
          simp only [okd] at k h
          simp only [D.eqv, D.lst.injEq]
          exact eqvs_iff xs ys n m k h
      | _ => simp [D.eqv]
  | .bl _, _, _, _, k, _ => by simp [okd] at k
  | .dct _ _, _, _, _, k, _ => by simp [okd] at k
  | .ref _, _, _, _, k, _ => by simp [okd] at k
  | .fn _, _, _, _, k, _ => by simp [okd] at k
  | .kst _, _, _, _, k, _ => by simp [okd] at k
theorem eqvs_iff : ∀ (ds es : List D) (n m : Nat), okds ds n = true → okds es m = true → (D.eqvs ds es = true ↔ ds = es)
  | [], es, _, _, _, _ => by cases es <;> simp [D.eqvs]
  | x :: xs, es, n, m, k, h => by
    cases es with
    | nil => simp [D.eqvs]
    | cons y ys =>
      simp only [okds, Bool.and_eq_true] at k h
      simp only [D.eqvs, Bool.and_eq_true, List.cons.injEq]
      rw [eqv_iff x y n m k.1 h.1, eqvs_iff xs ys n m k.2 h.2]
end
theorem eqv_dec {d e : D} {p : Prop} [Decidable p] {n m : Nat} (h1 : okd d n = true) (h2 : okd e m = true) (i : d = e ↔ p) : D.eqv d e = decide p := by
  rw [Bool.eq_iff_iff, eqv_iff d e n m h1 h2, i, decide_eq_true_iff]
theorem okds_all {n : Nat} : ∀ {ds : List D}, (∀ d ∈ ds, okd d n = true) → okds ds n = true
  | [], _ => rfl
  | x :: xs, h => by
    simp only [okds, Bool.and_eq_true]
    exact ⟨h x (List.mem_cons_self ..), okds_all fun d hd => h d (List.mem_cons_of_mem _ hd)⟩
theorem okds_map {α : Type} {f : α → D} {n : Nat} {l : List α} (h : ∀ x ∈ l, okd (f x) n = true) : okds (l.map f) n = true := okds_all fun d hd => by
  obtain ⟨x, hx, rfl⟩ := List.mem_map.mp hd
  exact h x hx
/-- == of data -/
theorem opEq_data {neg : Bool} {d e : D} {K : T → Prop} {p : Prop} [Decidable p] {n m : Nat} (h1 : okd d n = true) (h2 : okd e m = true) (i : d = e ↔ p) (q : K (.val (.bl (if neg then !decide p else decide p)))) (hn : n ≤ 64 := by decide) (hm : m ≤ 64 := by decide) : opEq neg d e K := by
  have hh := eqv_dec h1 h2 i
  unfold opEq
  split
  · rename_i _ a b
    have e2 : decide (a = b) = decide p := by rw [← hh]; simp [D.eqv, Bool.beq_eq_decide_eq]
    rw [e2]; exact q
  · rename_i _ a b
    have e2 : decide (a = b) = decide p := by rw [← hh]; simp [D.eqv, Bool.beq_eq_decide_eq]
    rw [e2]; exact q
  · refine ⟨⟨okd_cmp h1 hn, okd_cmp h2 hm⟩, ?_⟩
    rw [hh]; exact q
theorem eq_data {d e : D} {K : T → Prop} {p : Prop} [Decidable p] {n m : Nat} (h1 : okd d n = true) (h2 : okd e m = true) (i : d = e ↔ p) (q : K (.val (.bl (decide p)))) (hn : n ≤ 64 := by decide) (hm : m ≤ 64 := by decide) : opEq false d e K := opEq_data (neg := false) h1 h2 i q hn hm
theorem ne_data {d e : D} {K : T → Prop} {p : Prop} [Decidable p] {n m : Nat} (h1 : okd d n = true) (h2 : okd e m = true) (i : d = e ↔ p) (q : K (.val (.bl (!decide p)))) (hn : n ≤ 64 := by decide) (hm : m ≤ 64 := by decide) : opEq true d e K := opEq_data (neg := true) h1 h2 i q hn hm
/-- a loop over items -/
theorem forW_ind {G : WG} {W : WS} {D0 : WEnds} (J : List D → VEnv → Sto → Prop) (fin : ∀ e s, J [] e s → D0.nx e s)
    (step : ∀ d ds e s (K : WEnd), J (d :: ds) e s → (∀ e s, J ds e s → K e s) → G d e s fun e s => W { D0 with nx := K, ct := K, bk := D0.nx } e s) : ∀ {items : List D} {e : VEnv} {s : Sto}, J items e s → forW G W D0 items e s
  | [], e, s, h => fin e s h
  | d :: ds, e, s, h => step d ds e s _ h fun e s h => forW_ind J fin step h
/-- .. given by a list of something -/
theorem forW_map {α : Type} {f : α → D} {G : WG} {W : WS} {D0 : WEnds} (J : List α → VEnv → Sto → Prop) (fin : ∀ e s, J [] e s → D0.nx e s)
    (step : ∀ a as e s (K : WEnd), J (a :: as) e s → (∀ e s, J as e s → K e s) → G (f a) e s fun e s => W { D0 with nx := K, ct := K, bk := D0.nx } e s) : ∀ {items : List α} {e : VEnv} {s : Sto}, J items e s → forW G W D0 (items.map f) e s
  | [], e, s, h => fin e s h
  | d :: ds, e, s, h => step d ds e s _ h fun e s h => forW_map J fin step h
/-- .. of a range: i the turns that are done -/
theorem forW_rng {lo : Int} {n : Nat} {G : WG} {W : WS} {D0 : WEnds} (J : Nat → VEnv → Sto → Prop) (fin : ∀ e s, J n e s → D0.nx e s)
    (step : ∀ (i : Nat) e s (K : WEnd), i < n → J i e s → (∀ e s, J (i + 1) e s → K e s) → G (.int (lo + (i : Int))) e s fun e s => W { D0 with nx := K, ct := K, bk := D0.nx } e s) {e : VEnv} {s : Sto} (h : J 0 e s) : forW G W D0 (rngD lo n) e s := by
  have key : ∀ (l : List Nat) (e : VEnv) (s : Sto) (i : Nat), l = (List.range n).drop i → i ≤ n → J i e s → forW G W D0 (l.map fun (i : Nat) => .int (lo + (i : Int))) e s := by
    intro l
    induction l with
    | nil =>
      intro e s i hl hi h
      have : n ≤ i := by simpa using (List.drop_eq_nil_iff.mp hl.symm)
      have e1 : i = n := by omega
      subst e1
      exact fin e s h
    | cons a l ih =>
      intro e s i hl hi h
      have hi' : i < n := by
        refine Nat.lt_of_not_le fun q => ?_
        rw [List.drop_eq_nil_of_le (by simpa using q)] at hl
        cases hl
      rw [List.drop_eq_getElem_cons (by simpa using hi')] at hl
      obtain ⟨h1, h2⟩ := List.cons.inj hl
      have h1 : a = i := by simpa using h1
      subst h1
      exact step a e s _ hi' h fun e s h => ih e s (a + 1) h2 hi' h
  unfold rngD
  exact key _ e s 0 (by simp) (Nat.zero_le _) h
theorem lcW_ind {vs : List Nat} {G : WG} {Wt : WT} {We : WE} {Q : List D → VEnv → Sto → Prop} (J : List D → List D → VEnv → Sto → Prop) (fin : ∀ acc e s, J [] acc e s → Q acc e s)
    (step : ∀ d ds acc e s (K : List D → VEnv → Sto → Prop), J (d :: ds) acc e s → (∀ acc e s, J ds acc e s → K acc e s) → G d e s fun e1 s1 => Wt e1 s1 fun b e2 s2 => Ite b (We e2 s2 fun t e3 s3 => K (acc ++ [t.d]) (wpE e3 vs) s3) (K acc (wpE e2 vs) s2)) :
    ∀ {items acc : List D} {e : VEnv} {s : Sto}, J items acc e s → lcW vs G Wt We items acc e s Q
  | [], acc, e, s, h => fin acc e s h
  | d :: ds, acc, e, s, h => step d ds acc e s _ h fun acc e s h => lcW_ind J fin step h
/-- a comprehension that computes: f an item's answer, none if left out -/
theorem lcW_pure {α : Type} {vs : List Nat} {G : WG} {Wt : WT} {We : WE} {Q : List D → VEnv → Sto → Prop} (enc : α → D) (f : α → Option D) (e0 : VEnv) (s0 : Sto) {items : List α}
    (step : ∀ a ∈ items, ∀ (K : List D → VEnv → Sto → Prop) acc, K (acc ++ (f a).toList) e0 s0 → G (enc a) e0 s0 fun e1 s1 => Wt e1 s1 fun b e2 s2 => Ite b (We e2 s2 fun t e3 s3 => K (acc ++ [t.d]) (wpE e3 vs) s3) (K acc (wpE e2 vs) s2))
    (q : Q (items.filterMap f) e0 s0) : lcW vs G Wt We (items.map enc) [] e0 s0 Q := by
  have key : ∀ (l : List α) (acc : List D), (∀ a ∈ l, a ∈ items) → acc ++ l.filterMap f = items.filterMap f → lcW vs G Wt We (l.map enc) acc e0 s0 Q := by
    intro l
    induction l with
    | nil => intro acc _ h; rw [List.filterMap_nil, List.append_nil] at h; rw [← h] at q; exact q
    | cons a l ih =>
      intro acc hm h
      rw [List.map_cons]
      unfold lcW
      refine step a (hm a (List.mem_cons_self ..)) (fun acc e s => lcW vs G Wt We (l.map enc) acc e s Q) acc ?_
      refine ih _ (fun b hb => hm b (List.mem_cons_of_mem _ hb)) ?_
      rw [← h, List.filterMap_cons]
      cases f a <;> simp
  exact key items [] (fun _ h => h) (by simp)
theorem slot_set_self {env : VEnv} {i : Nat} {t : Option T} (h : i < env.length) : slot (env.set i t) i = t := by
  induction env generalizing i with
  | nil => simp at h
  | cons x r ih =>
    cases i with
    | zero => rfl
    | succ i => exact ih (by simpa using h)
end VC

set_option Elab.async false
set_option linter.all false
set_option maxRecDepth 100000
set_option maxHeartbeats 4000000
/-! VR: dicts: is a key in, its value, a value stored. -/
namespace VC
open PySem PySem.Spec PyProof.Rows L2

/-! ### which sort of keys -/
def D.isT : D → Bool
  | .tup _ => true
  | .non => false
  | .bl _ => false
  | .int _ => false
  | .str _ => false
  | .lst _ => false
  | .dct _ _ => false
  | .ref _ => false
  | .fn _ => false
  | .kst _ => false
def D.isL : D → Bool
  | .int _ => true
  | .str _ => true
  | .tup _ => false
  | .non => false
  | .bl _ => false
  | .lst _ => false
  | .dct _ _ => false
  | .ref _ => false
  | .fn _ => false
  | .kst _ => false
/-- all keys tuples, or all keys ints and texts -/
def Kinds (ks : List D) (k : D) : Prop := (k.isT = true ∧ ∀ q ∈ ks, q.isT = true) ∨ (k.isL = true ∧ ∀ q ∈ ks, q.isL = true)
section
variable {X : Cx} {pins : List (Addr × Obj)} {s : Shared} {σ : L2.St} {H : Hp} {mg : Str → Option Value} {w w' : WK} {g : Gh}
mutual
/-- a datum that is a key, in the heap -/
theorem Rep.nested (I : Inv X pins σ H s) : ∀ {d : D} {v : V} {u : Value} {nk : NestedKey}, Rep mg w g H d v → D.key d = some nk → RelV v u → NestedIs s.heap nk u
  | _, _, u, _, .non, e, r => by simp [D.key] at e; subst e; cases r; exact .none
  | _, _, u, _, .bl b, e, r => by simp [D.key] at e; subst e; cases r; exact .bool rfl
  | _, _, u, _, .int i, e, r => by simp [D.key] at e; subst e; obtain ⟨t, rfl⟩ := r; exact .int _ _
  | _, _, u, _, .str i, e, r => by simp [D.key] at e; subst e; obtain ⟨t, rfl⟩ := r; exact .text _ _
  | _, _, u, nk, .tup (ds := ds) h1 h2, e, r => by
    simp only [D.key, Option.map_eq_some_iff] at e
    obtain ⟨ks, e1, rfl⟩ := e
    cases r
    obtain ⟨its, rv, ⟨o, ho, hc, n, hd⟩, hz⟩ := I.tuple (SqT.at h1)
    exact .tup ho hc hd (by simpa using RepAll.nested I h2 e1 rv)
  | _, _, _, _, .lst _ _ _, e, _ => by simp [D.key] at e
  | _, _, _, _, .dct _ _ _ _ _, e, _ => by simp [D.key] at e
  | _, _, _, _, .ref _, e, _ => by simp [D.key] at e
  | _, _, _, _, .fn _, e, _ => by simp [D.key] at e
  | _, _, _, _, .kst _ _, e, _ => by simp [D.key] at e
theorem RepAll.nested (I : Inv X pins σ H s) : ∀ {ds : List D} {vs : List V} {us : List Value} {ks : List NestedKey}, RepAll mg w g H ds vs → D.keys ds = some ks → Vals vs us → NestedAll s.heap ks us
  | _, _, _, _, .nil, e, r => by simp [D.keys] at e; subst e; cases r; exact .nil
  | _, _, _, _, .cons (d := d) (ds := ds) h1 h2, e, r => by
    simp only [D.keys] at e
    split at e
    · rename_i k ks e1 e2
      cases e
      cases r with
      | cons r1 r2 => exact .cons (Rep.nested I h1 e1 r1) (RepAll.nested I h2 e2 r2)
    · cases e
end
/-! ### keys that are tuples -/
/-- the dict's entries as a key, its object, its value -/
inductive TT3 (mg : Str → Option Value) (w : WK) (g : Gh) (H : Hp) : List D → List D → List (NestedKey × Addr × Value) → Prop
  | nil : TT3 mg w g H [] [] []
  | cons {k d ks ds x xs dv} : kok k 8 = true → D.key k = some x.1 → Rep mg w g H k (.ref x.2.1) → Rep mg w g H d dv → RelV dv x.2.2 → TT3 mg w g H ks ds xs → TT3 mg w g H (k :: ks) (d :: ds) (x :: xs)
theorem RepEs.tt : ∀ {ks ds : List D} {es : List DictEntry}, RepEs mg w g H ks ds es → (∀ q ∈ ks, q.isT = true) → ∃ xs, TT3 mg w g H ks ds xs ∧ es = xs.map (entryOfKey (nestedKind X.prog w.1))
  | _, _, _, .nil, _ => ⟨[], .nil, rfl⟩
  | _, _, _, .cons (k := k) (kv := kv) (e := e) (nk := nk) h1 h2 h3 h4 h5 h6 h7 h8, hq => by
    obtain ⟨xs, t, e1⟩ := RepEs.tt h8 fun q hm => hq q (List.mem_cons_of_mem _ hm)
    have hk := hq k (List.mem_cons_self ..)
    cases h1 with
    | @tup a vs ds q1 q2 =>
      have e2 : e.key = .ref a := h2
      refine ⟨(nk, a, e.val) :: xs, .cons h5 h6 (.tup q1 q2) h3 h4 t, ?_⟩
      rw [List.map_cons, ← e1]
      obtain ⟨eh, ek, ev⟩ := e
      simp only at e2 h7
      subst e2 h7
      rfl
    | _ => simp [D.isT] at hk
theorem TT3.es : ∀ {ks ds : List D} {xs : List (NestedKey × Addr × Value)}, TT3 mg w g H ks ds xs → RepEs mg w g H ks ds (xs.map (entryOfKey (nestedKind X.prog w.1)))
  | _, _, _, .nil => .nil
  | _, _, _, .cons h1 h2 h3 h4 h5 h6 => .cons h3 rfl h4 h5 h1 h2 rfl (TT3.es h6)
theorem TT3.keys : ∀ {ks ds : List D} {xs : List (NestedKey × Addr × Value)}, TT3 mg w g H ks ds xs → ks.map D.key = xs.map fun x => some x.1
  | _, _, _, .nil => rfl
  | _, _, _, .cons _ h2 _ _ _ h6 => by rw [List.map_cons, List.map_cons, h2, TT3.keys h6]
theorem TT3.is (I : Inv X pins σ H s) : ∀ {ks ds : List D} {xs : List (NestedKey × Addr × Value)}, TT3 mg w g H ks ds xs → ∀ x ∈ xs, (nestedKind X.prog w.1).is s.heap x.1 x.2.1
  | _, _, _, .nil, x, hx => by simp at hx
  | _, _, _, .cons h1 h2 h3 h4 h5 h6, x, hx => by
    rcases List.mem_cons.mp hx with rfl | hx
    · obtain ⟨nk, e1, e2⟩ := kok_key _ _ h1
      rw [h2] at e1; cases e1
      exact ⟨Rep.nested I h3 h2 rfl, e2⟩
    · exact TT3.is I h6 x hx
theorem nodup_of {ks : List D} {xs : List (NestedKey × Addr × Value)} (e : ks.map D.key = xs.map fun x => some x.1) (n : (ks.map D.key).Nodup) : (xs.map (·.1)).Nodup := by
  rw [e] at n
  have : (xs.map fun x => some x.1) = (xs.map (·.1)).map some := by rw [List.map_map]; rfl
  rw [this] at n
  exact (List.pairwise_map.mp n).imp fun h e => h (by rw [e])
theorem atKey_cons {x : NestedKey × Addr × Value} {xs : List (NestedKey × Addr × Value)} {nk : NestedKey} : atKey (x :: xs) nk = if x.1 = nk then some x.2 else atKey xs nk := by
  unfold atKey
  rw [List.find?_cons]
  by_cases h : x.1 = nk
  · rw [if_pos h, decide_eq_true h]; rfl
  · rw [if_neg h, decide_eq_false h]
theorem TT3.at {k d : D} {nk : NestedKey} (ek : D.key k = some nk) : ∀ {ks ds : List D} {xs : List (NestedKey × Addr × Value)} {i : Nat}, TT3 mg w g H ks ds xs → (ks.map D.key).Nodup → ks[i]? = some k → ds[i]? = some d →
    ∃ p dv, atKey xs nk = some p ∧ Rep mg w g H d dv ∧ RelV dv p.2
  | _, _, _, i, .nil, _, h, _ => by simp at h
  | _, _, _, 0, .cons (x := x) (dv := dv) h1 h2 h3 h4 h5 h6, n, h, h' => by
    simp at h h'; subst h h'
    rw [h2] at ek; cases ek
    exact ⟨x.2, dv, by rw [atKey_cons, if_pos rfl], h4, h5⟩
  | _, _, _, i + 1, .cons (x := x) h1 h2 h3 h4 h5 h6, n, h, h' => by
    rw [List.map_cons, List.nodup_cons] at n
    obtain ⟨p, dv, e, r⟩ := TT3.at ek h6 n.2 (by simpa using h) (by simpa using h')
    refine ⟨p, dv, ?_, r⟩
    rw [atKey_cons, if_neg, e]
    intro e2
    exact n.1 (by rw [h2, e2, ← ek]; exact List.mem_map.mpr ⟨k, List.mem_of_getElem? (by simpa using h), rfl⟩)
theorem TT3.none {k : D} {nk : NestedKey} (hk : kok k 8 = true) (ek : D.key k = some nk) : ∀ {ks ds : List D} {xs : List (NestedKey × Addr × Value)}, TT3 mg w g H ks ds xs → k ∉ ks → atKey xs nk = none
  | _, _, _, .nil, _ => rfl
  | _, _, _, .cons h1 h2 h3 h4 h5 h6, h => by
    rw [atKey_cons, if_neg, TT3.none hk ek h6 fun z => h (List.mem_cons_of_mem _ z)]
    intro e2
    exact h (List.mem_cons.mpr (.inl (key_inj _ _ _ _ hk h1 (by rw [ek, h2, e2]))))
theorem TT3.put {k d : D} {nk : NestedKey} {dv : V} {u : Value} (ek : D.key k = some nk) (r1 : Rep mg w g H d dv) (r2 : RelV dv u) : ∀ {ks ds : List D} {xs : List (NestedKey × Addr × Value)} {i : Nat}, TT3 mg w g H ks ds xs → (ks.map D.key).Nodup → ks[i]? = some k →
    TT3 mg w g H ks (ds.set i d) (xs.map (putAt nk u))
  | _, _, _, i, .nil, _, h => by simp at h
  | _, _, _, 0, .cons (x := x) (ks := ks) (ds := ds) (xs := xs) h1 h2 h3 h4 h5 h6, n, h => by
    simp at h; subst h
    rw [h2] at ek; cases ek
    have e : xs.map (putAt x.1 u) = xs := by
      rw [List.map_cons, List.nodup_cons] at n
      refine (List.map_congr_left (g := id) fun y hy => ?_).trans (List.map_id _)
      show _ = y
      unfold putAt
      rw [if_neg]
      intro e
      refine n.1 ?_
      rw [h2, h6.keys]
      exact List.mem_map.mpr ⟨y, hy, by rw [e]⟩
    rw [List.map_cons, e, List.set_cons_zero]
    have e2 : putAt x.1 u x = (x.1, x.2.1, u) := if_pos rfl
    rw [e2]
    exact .cons h1 h2 h3 r1 r2 h6
  | _, _, _, i + 1, .cons (x := x) h1 h2 h3 h4 h5 h6, n, h => by
    rw [List.map_cons, List.nodup_cons] at n
    have q := TT3.put ek r1 r2 h6 n.2 (by simpa using h)
    have e2 : putAt nk u x = x := by
      unfold putAt
      rw [if_neg]
      intro e
      exact n.1 (by rw [h2, e, ← ek]; exact List.mem_map.mpr ⟨k, List.mem_of_getElem? (by simpa using h), rfl⟩)
    rw [List.map_cons, e2, List.set_cons_succ]
    exact .cons h1 h2 h3 h4 h5 q
theorem TT3.app {k d : D} {nk : NestedKey} {a : Addr} {dv : V} {u : Value} (hk : kok k 8 = true) (ek : D.key k = some nk) (rk : Rep mg w g H k (.ref a)) (r1 : Rep mg w g H d dv) (r2 : RelV dv u) : ∀ {ks ds : List D} {xs : List (NestedKey × Addr × Value)}, TT3 mg w g H ks ds xs →
    TT3 mg w g H (ks ++ [k]) (ds ++ [d]) (xs ++ [(nk, a, u)])
  | _, _, _, .nil => .cons hk ek rk r1 r2 .nil
  | _, _, _, .cons h1 h2 h3 h4 h5 h6 => .cons h1 h2 h3 h4 h5 (TT3.app hk ek rk r1 r2 h6)
theorem TT3.len : ∀ {ks ds : List D} {xs : List (NestedKey × Addr × Value)}, TT3 mg w g H ks ds xs → xs.length = ks.length ∧ ds.length = ks.length
  | _, _, _, .nil => ⟨rfl, rfl⟩
  | _, _, _, .cons _ _ _ _ _ h6 => ⟨by rw [List.length_cons, List.length_cons, (TT3.len h6).1], by rw [List.length_cons, List.length_cons, (TT3.len h6).2]⟩
/-! ### keys that are ints or texts -/
def kD : Key → D
  | .inl i => .int i
  | .inr x => .str x
def kN : Key → NestedKey
  | .inl i => .num i
  | .inr x => .text x
theorem kD_key (k : Key) : D.key (kD k) = some (kN k) := by cases k <;> rfl
theorem kD_inj {a b : Key} (h : kD a = kD b) : a = b := by cases a <;> cases b <;> simp [kD] at h <;> rw [h]
theorem kD_kok (k : Key) : kok (kD k) 8 = true := by cases k <;> rfl
theorem kD_of {d : D} (h : d.isL = true) : ∃ k, d = kD k := by
  cases d <;> simp [D.isL] at h
  · exact ⟨.inl _, rfl⟩
  · exact ⟨.inr _, rfl⟩
inductive LL3 (mg : Str → Option Value) (w : WK) (g : Gh) (H : Hp) : List D → List D → List (Key × Value) → Prop
  | nil : LL3 mg w g H [] [] []
  | cons {d ks ds x xs dv} : Rep mg w g H d dv → RelV dv x.2 → LL3 mg w g H ks ds xs → LL3 mg w g H (kD x.1 :: ks) (d :: ds) (x :: xs)
theorem keyIs_of {P : Program} {w : World} {k : Key} {v : V} {u : Value} (r : Rep mg w' g H (kD k) v) (e : RelV v u) : keyIs k u = true := by
  cases k with
  | inl i => cases r; obtain ⟨t, rfl⟩ := e; simp [keyIs, Value.isInt]
  | inr x => cases r; obtain ⟨t, rfl⟩ := e; simp [keyIs, Value.isStrOf]
theorem RepEs.ll {P : Program} : ∀ {ks ds : List D} {es : List DictEntry}, RepEs mg w g H ks ds es → (∀ q ∈ ks, q.isL = true) → ∃ kvs, LL3 mg w g H ks ds kvs ∧ Pairs (mixKind P w.1) es kvs ∧ ∀ e ∈ es, ∃ k, keyIs k e.key = true ∧ e.hash = keyH w.1 k
  | _, _, _, .nil, _ => ⟨[], .nil, .nil, fun e h => by simp at h⟩
  | _, _, _, .cons (k := k) (kv := kv) (e := e) (nk := nk) h1 h2 h3 h4 h5 h6 h7 h8, hq => by
    obtain ⟨xs, t, p, q⟩ := RepEs.ll (P := P) h8 fun q hm => hq q (List.mem_cons_of_mem _ hm)
    obtain ⟨k', rfl⟩ := kD_of (hq k (List.mem_cons_self ..))
    have ki := keyIs_of (P := P) (w := w.1) h1 h2
    refine ⟨(k', e.val) :: xs, .cons (x := (k', e.val)) h3 h4 t, .cons ki rfl p, fun e' he => ?_⟩
    rcases List.mem_cons.mp he with rfl | he
    · refine ⟨k', ki, ?_⟩
      rw [kD_key] at h6; cases h6
      rw [h7]
      cases k' <;> rfl
    · exact q e' he
theorem LL3.es {P : Program} : ∀ {ks ds : List D} {kvs : List (Key × Value)} {es : List DictEntry}, LL3 mg w g H ks ds kvs → Pairs (mixKind P w.1) es kvs → (∀ e ∈ es, ∃ k, keyIs k e.key = true ∧ e.hash = keyH w.1 k) → RepEs mg w g H ks ds es
  | _, _, _, _, .nil, p, _ => by cases p; exact .nil
  | _, _, _, _, .cons (x := x) h1 h2 h3, p, q => by
    cases p with
    | @cons e kv es kvs p1 p2 p3 =>
      obtain ⟨k, q1, q2⟩ := q e (List.mem_cons_self ..)
      have p1 : keyIs x.1 e.key = true := p1
      have ek : k = x.1 := (mixKind P w.1).inj e.key k x.1 q1 p1
      subst ek
      have r := LL3.es (P := P) h3 p3 fun e' he => q e' (List.mem_cons_of_mem _ he)
      rcases keyIs_shape p1 with ⟨i, t, e1, e2⟩ | ⟨y, t, e1, e2⟩
      · rw [e1] at q2 ⊢
        exact .cons (.int i) ⟨t, e2⟩ h1 (by rw [p2]; exact h2) rfl rfl q2 r
      · rw [e1] at q2 ⊢
        exact .cons (.str y) ⟨t, e2⟩ h1 (by rw [p2]; exact h2) rfl rfl q2 r
theorem valueAt_cons {x : Key × Value} {xs : List (Key × Value)} {k : Key} : valueAt (x :: xs) k = if x.1 = k then some x.2 else valueAt xs k := by
  unfold valueAt
  rw [List.find?_cons]
  by_cases h : x.1 = k
  · rw [if_pos h, decide_eq_true h]; rfl
  · rw [if_neg h, decide_eq_false h]
theorem LL3.nod : ∀ {ks ds : List D} {xs : List (Key × Value)}, LL3 mg w g H ks ds xs → ks = xs.map fun x => kD x.1
  | _, _, _, .nil => rfl
  | _, _, _, .cons _ _ h => by rw [List.map_cons, LL3.nod h]
theorem LL3.at {k : Key} {d : D} : ∀ {ks ds : List D} {xs : List (Key × Value)} {i : Nat}, LL3 mg w g H ks ds xs → (ks.map D.key).Nodup → ks[i]? = some (kD k) → ds[i]? = some d →
    ∃ u dv, valueAt xs k = some u ∧ Rep mg w g H d dv ∧ RelV dv u
  | _, _, _, i, .nil, _, h, _ => by simp at h
  | _, _, _, 0, .cons (x := x) (dv := dv) h1 h2 h3, n, h, h' => by
    simp at h h'; subst h'
    have h := kD_inj h
    exact ⟨x.2, dv, by rw [valueAt_cons, if_pos h], h1, h2⟩
  | _, _, _, i + 1, .cons (x := x) h1 h2 h3, n, h, h' => by
    rw [List.map_cons, List.nodup_cons] at n
    obtain ⟨p, dv, e, r⟩ := LL3.at h3 n.2 (by simpa using h) (by simpa using h')
    refine ⟨p, dv, ?_, r⟩
    rw [valueAt_cons, if_neg, e]
    intro e2
    exact n.1 (by rw [e2]; exact List.mem_map.mpr ⟨kD k, List.mem_of_getElem? (by simpa using h), rfl⟩)
theorem LL3.none {k : Key} : ∀ {ks ds : List D} {xs : List (Key × Value)}, LL3 mg w g H ks ds xs → kD k ∉ ks → valueAt xs k = none
  | _, _, _, .nil, _ => rfl
  | _, _, _, .cons h1 h2 h3, h => by
    rw [valueAt_cons, if_neg, LL3.none h3 fun z => h (List.mem_cons_of_mem _ z)]
    intro e2
    exact h (List.mem_cons.mpr (.inl (by rw [e2])))
theorem LL3.put {k : Key} {d : D} {dv : V} {u : Value} (r1 : Rep mg w g H d dv) (r2 : RelV dv u) : ∀ {ks ds : List D} {xs : List (Key × Value)} {i : Nat}, LL3 mg w g H ks ds xs → (ks.map D.key).Nodup → ks[i]? = some (kD k) →
    LL3 mg w g H ks (ds.set i d) (xs.map fun kv => if kv.1 = k then (kv.1, u) else kv)
  | _, _, _, i, .nil, _, h => by simp at h
  | _, _, _, 0, .cons (x := x) (ks := ks) (xs := xs) h1 h2 h3, n, h => by
    simp at h
    have h := kD_inj h
    subst h
    have e : (xs.map fun kv => if kv.1 = x.1 then (kv.1, u) else kv) = xs := by
      rw [List.map_cons, List.nodup_cons] at n
      refine (List.map_congr_left (g := id) fun y hy => ?_).trans (List.map_id _)
      show (if y.1 = x.1 then _ else _) = y
      rw [if_neg]
      intro e
      refine n.1 ?_
      rw [h3.nod, List.map_map]
      exact List.mem_map.mpr ⟨y, hy, by show D.key (kD y.1) = _; rw [e]⟩
    rw [List.map_cons, e, List.set_cons_zero, if_pos rfl]
    exact .cons (x := (x.1, u)) r1 r2 h3
  | _, _, _, i + 1, .cons (x := x) h1 h2 h3, n, h => by
    rw [List.map_cons, List.nodup_cons] at n
    have q := LL3.put r1 r2 h3 n.2 (by simpa using h)
    rw [List.map_cons, if_neg, List.set_cons_succ]
    · exact .cons h1 h2 q
    · intro e
      exact n.1 (by rw [e]; exact List.mem_map.mpr ⟨kD k, List.mem_of_getElem? (by simpa using h), rfl⟩)
theorem LL3.app {k : Key} {d : D} {dv : V} {u : Value} (r1 : Rep mg w g H d dv) (r2 : RelV dv u) : ∀ {ks ds : List D} {xs : List (Key × Value)}, LL3 mg w g H ks ds xs →
    LL3 mg w g H (ks ++ [kD k]) (ds ++ [d]) (xs ++ [(k, u)])
  | _, _, _, .nil => .cons (x := (k, u)) r1 r2 .nil
  | _, _, _, .cons h1 h2 h3 => .cons h1 h2 (LL3.app r1 r2 h3)
theorem LL3.len : ∀ {ks ds : List D} {xs : List (Key × Value)}, LL3 mg w g H ks ds xs → xs.length = ks.length ∧ ds.length = ks.length
  | _, _, _, .nil => ⟨rfl, rfl⟩
  | _, _, _, .cons _ _ h6 => ⟨by rw [List.length_cons, List.length_cons, (LL3.len h6).1], by rw [List.length_cons, List.length_cons, (LL3.len h6).2]⟩
end
end VC

set_option Elab.async false
set_option linter.all false
set_option maxRecDepth 100000
set_option maxHeartbeats 4000000
/-! VS: dicts in expressions. -/
namespace VC
open PySem PySem.Spec PyProof.Rows L2
section
variable {X : Cx} {pins : List (Addr × Obj)} {s : Shared} {σ : L2.St} {H : Hp} {mg : Str → Option Value} {w : WK} {g : Gh} {a : Addr} {es : List DictEntry} {ep : Nat} {ks ds : List D}
theorem Inv.dct (I : Inv X pins σ H s) (h : H a = some (.ext (DictAt a (es, ep)))) : ∃ o, s.heap.get? a = some o ∧ o.ExactDict ∧ o.data = .dict es.toArray ep := (I.hok a _ h).1
theorem Inv.dctH (I : Inv X pins σ H s) (h : H a = some (.ext (DictAt a (es, ep)))) (r : RepEs X.mg X.wk g H ks ds es) (n : (ks.map D.key).Nodup) (hT : ∀ q ∈ ks, q.isT = true) :
    ∃ xs, TT3 X.mg X.wk g H ks ds xs ∧ es = xs.map (entryOfKey (nestedKind X.prog X.w)) ∧ s.heap.DictOfH (nestedKind X.prog X.w) a xs := by
  obtain ⟨o, h1, h2, h3⟩ := Inv.dct I h
  obtain ⟨xs, t, e⟩ := RepEs.tt (X := X) r hT
  exact ⟨xs, t, e, o, es.toArray, ep, h1, h2, h3, by simpa using e, TT3.is (w := X.wk) I t, nodup_of t.keys n⟩
theorem nodup_kv {xs : List (Key × Value)} (n : ((xs.map fun x => kD x.1).map D.key).Nodup) : (xs.map (·.1)).Nodup := by
  rw [List.map_map] at n
  refine List.pairwise_map.mpr ((List.pairwise_map.mp n).imp fun h e => h ?_)
  show D.key (kD _) = D.key (kD _)
  rw [e]
theorem Inv.dctL (I : Inv X pins σ H s) (h : H a = some (.ext (DictAt a (es, ep)))) (r : RepEs X.mg X.wk g H ks ds es) (n : (ks.map D.key).Nodup) (hL : ∀ q ∈ ks, q.isL = true) :
    ∃ xs, LL3 X.mg X.wk g H ks ds xs ∧ s.heap.DictOf (mixKind X.prog X.w) a xs := by
  obtain ⟨o, h1, h2, h3⟩ := Inv.dct I h
  obtain ⟨xs, t, p, q⟩ := RepEs.ll (P := X.prog) r hL
  refine ⟨xs, t, o, es.toArray, ep, h1, h2, h3, fun e he => q e (by simpa using he), by simpa using p, nodup_kv ?_⟩
  rw [← t.nod]; exact n
theorem mem_ix {k : D} (h : k ∈ ks) : ∃ i : Nat, ks[i]? = some k := by
  obtain ⟨i, hi, e⟩ := List.mem_iff_getElem.mp h
  exact ⟨i, by rw [List.getElem?_eq_getElem hi, e]⟩
theorem Cont.isT {k : D} {x : V} (c : Cont mg w g H k x) (h : k.isT = true) : ∃ b, x = .ref b ∧ Rep mg w g H k x := by
  cases k <;> simp [D.isT] at h
  rcases c with r | ⟨b, m, h1, h2, h3⟩
  · cases r with
    | @tup b vs ds h1 h2 => exact ⟨b, rfl, .tup h1 h2⟩
  · cases m <;> cases h2
theorem Cont.isL {k : D} {x : V} (c : Cont mg w g H k x) (h : k.isL = true) : Rep mg w g H k x := by
  cases k <;> simp [D.isL] at h
  · rw [c.int]; exact .int _
  · rw [c.str]; exact .str _
/-! ### in -/
def opInX (neg : Bool) : O2 := fun d e K => match e with
  | .dct ks vs => (kok d 8 = true ∧ Kinds ks d ∧ vs.length = ks.length) ∧ ∀ b : Bool, (b = true ↔ d ∈ ks) → K (.val (.bl (if neg then !b else b)))
  | e => opIn neg d e K
theorem opInX_mono (neg : Bool) : Mo2 (opInX neg) := fun d e K K' i q => by
  unfold opInX at q ⊢
  split at q
  · exact ⟨q.1, fun b hb => i _ (q.2 b hb)⟩
  · exact opIn_mono neg _ _ _ _ i q
theorem dct_has {k : D} {x : V} {v : Value} {A : Around} {E : Value → Shared → Prop} {Q : Bool → Nat → Prop} (I : Inv X pins σ H s) (hu : A.units + 65 < cLine) (h : H a = some (.ext (DictAt a (es, ep)))) (hs : (a == sysModules) = false) (r : RepEs X.mg X.wk g H ks ds es) (n : (ks.map D.key).Nodup) (hk : kok k 8 = true) (kd : Kinds ks k) (hl : ds.length = ks.length)
    (c : Cont X.mg X.wk g H k x) (rv : RelV x v) : ∃ b : Bool, (b = true ↔ k ∈ ks) ∧ ∀ (neg : Bool) (Q : Value → Shared → Prop), (∀ t, Q (.bool (if neg then !b else b)) { s with toks := t }) → wpAny (model X.prog X.w) A (compareOp (if neg then .NotIn else .In) v (.ref a)) Q E s := by
  obtain ⟨nk, ek, _⟩ := kok_key k 8 hk
  rcases kd with ⟨h1, h2⟩ | ⟨h1, h2⟩
  · obtain ⟨b, rfl, rk⟩ := c.isT h1
    cases rv
    obtain ⟨xs, t, e, dd⟩ := Inv.dctH I h r n h2
    have is : (nestedKind X.prog X.w).is s.heap nk b := by
      obtain ⟨nk', e1, e2⟩ := kok_key k 8 hk
      rw [ek] at e1; cases e1
      exact ⟨Rep.nested I rk ek rfl, e2⟩
    have hu' : (nestedKind X.prog X.w).room A.in1 := by show A.units + 1 + 8 < cLine; omega
    refine ⟨(atKey xs nk).isSome, ⟨fun z => ?_, fun z => ?_⟩, fun neg Q q => ?_⟩
    · refine Classical.byContradiction fun hn => ?_
      rw [TT3.none hk ek t hn] at z; cases z
    · obtain ⟨i, hi⟩ := mem_ix z
      have hi' : i < ds.length := by rw [hl]; exact (List.getElem?_eq_some_iff.mp hi).1
      obtain ⟨p, dv, e1, _⟩ := TT3.at ek t n hi (List.getElem?_eq_getElem hi')
      rw [e1]; rfl
    · have dk : s.heap.DictKeyed (nestedKind X.prog X.w) a (pairsH xs) := ⟨xs, dd, rfl⟩
      have ev : (valueAt (pairsH xs) nk).isSome = (atKey xs nk).isSome := by rw [valueAt_pairsH, Option.isSome_map]
      cases neg with
      | false => exact in_keyed hu' is hs dk (by rw [ev]; exact q _)
      | true => exact notIn_keyed hu' is hs dk (by rw [ev]; exact q _)
  · obtain ⟨kk, rfl⟩ := kD_of h1
    have ki : keyIs kk v = true := keyIs_of (P := X.prog) (w := X.w) (c.isL h1) rv
    obtain ⟨xs, t, dd⟩ := Inv.dctL I h r n h2
    refine ⟨(valueAt xs kk).isSome, ⟨fun z => ?_, fun z => ?_⟩, fun neg Q q => ?_⟩
    · refine Classical.byContradiction fun hn => ?_
      rw [LL3.none t hn] at z; cases z
    · obtain ⟨i, hi⟩ := mem_ix z
      have hi' : i < ds.length := by rw [hl]; exact (List.getElem?_eq_some_iff.mp hi).1
      obtain ⟨p, dv, e1, _⟩ := LL3.at t n hi (List.getElem?_eq_getElem hi')
      rw [e1]; rfl
    · cases neg with
      | false => exact wpAny_in_of (knd := mixKind X.prog X.w) ki hs dd.mapOf (q _)
      | true => exact wpAny_notIn_of (knd := mixKind X.prog X.w) ki hs dd.mapOf (q _)
end
section
variable {X : Cx} {a : Addr} {es : List DictEntry} {ep : Nat} {ks ds : List D}
theorem o_inX (neg : Bool) (hi : Op2 X (compareOp (if neg then .NotIn else .In)) (opIn neg)) (hu : X.A.units + 65 < cLine) : Op2 X (compareOp (if neg then .NotIn else .In)) (opInX neg) := by
  refine ⟨opInX_mono _, fun pins s σ H g d e x y v u K I tr c1 c2 r1 r2 q => ?_⟩
  unfold opInX at q
  split at q
  · obtain ⟨⟨q1, q2, q3⟩, q⟩ := q
    obtain ⟨a, es, ep, rfl, h1, h2, h3, h4⟩ := c2.dct
    cases r2
    obtain ⟨b, hb, z⟩ := dct_has (A := X.A) (E := X.xe) (Q := fun _ _ => True) I hu h1 h2 h3 h4 q1 q2 q3 c1 r1
    exact z neg _ fun t => ⟨.bl _, H, I.tok t, rfl, rk_bl (q b hb)⟩
  · exact hi.run pins s σ H g _ _ x y v u K I tr c1 c2 r1 r2 q
theorem o_inXf (hu : X.A.units + 65 < cLine) : Op2 X (compareOp .In) (opInX false) := o_inX false (o_in hu) hu
theorem o_inXt (hu : X.A.units + 65 < cLine) : Op2 X (compareOp .NotIn) (opInX true) := o_inX true (o_notin hu) hu
/-! ### d[k] -/
def opIxX : O2 := fun d e K => match d with
  | .dct ks vs => (kok e 8 = true ∧ Kinds ks e) ∧ ∃ (i : Nat) (x : D), ks[i]? = some e ∧ vs[i]? = some x ∧ K (.val x)
  | d => opIx d e K
theorem opIxX_mono : Mo2 opIxX := fun d e K K' i q => by
  unfold opIxX at q ⊢
  split at q
  · obtain ⟨h, j, x, h1, h2, q⟩ := q
    exact ⟨h, j, x, h1, h2, i _ q⟩
  · exact opIx_mono _ _ _ _ i q
theorem dct_at {pins : List (Addr × Obj)} {s : Shared} {σ : L2.St} {H : Hp} {g : Gh} {k d : D} {x : V} {v : Value} {i : Nat} {A : Around} {E : Value → Shared → Prop} (I : Inv X pins σ H s) (hu : A.units + 65 < cLine) (h : H a = some (.ext (DictAt a (es, ep)))) (r : RepEs X.mg X.wk g H ks ds es) (n : (ks.map D.key).Nodup) (hk : kok k 8 = true) (kd : Kinds ks k)
    (c : Cont X.mg X.wk g H k x) (rv : RelV x v) (hi : ks[i]? = some k) (hd : ds[i]? = some d) : ∃ dv u, Rep X.mg X.wk g H d dv ∧ RelV dv u ∧ s.TypeIs (.ref a) "dict" ∧ ∀ (Q : Value → Shared → Prop), (∀ t, Q u { s with toks := t }) → wpAny (model X.prog X.w) A (getItem (.ref a) v) Q E s := by
  obtain ⟨nk, ek, _⟩ := kok_key k 8 hk
  rcases kd with ⟨h1, h2⟩ | ⟨h1, h2⟩
  · obtain ⟨b, rfl, rk⟩ := c.isT h1
    cases rv
    obtain ⟨xs, t, e, dd⟩ := Inv.dctH I h r n h2
    have is : (nestedKind X.prog X.w).is s.heap nk b := by
      obtain ⟨nk', e1, e2⟩ := kok_key k 8 hk
      rw [ek] at e1; cases e1
      exact ⟨Rep.nested I rk ek rfl, e2⟩
    have hu' : (nestedKind X.prog X.w).room A.in1 := by show A.units + 1 + 8 < cLine; omega
    obtain ⟨p, dv, e1, r1, r2⟩ := TT3.at ek t n hi hd
    have dk : s.heap.DictKeyed (nestedKind X.prog X.w) a (pairsH xs) := ⟨xs, dd, rfl⟩
    exact ⟨dv, p.2, r1, r2, dk.typeIs, fun Q q => getItem_keyed hu' is dk (by rw [valueAt_pairsH, e1]; rfl) (q _)⟩
  · obtain ⟨kk, rfl⟩ := kD_of h1
    have ki : keyIs kk v = true := keyIs_of (P := X.prog) (w := X.w) (c.isL h1) rv
    obtain ⟨xs, t, dd⟩ := Inv.dctL I h r n h2
    obtain ⟨u, dv, e1, r1, r2⟩ := LL3.at t n hi hd
    exact ⟨dv, u, r1, r2, dd.mapOf.typeIs, fun Q q => wpAny_getItem_of (knd := mixKind X.prog X.w) ki dd.mapOf e1 (q _)⟩
theorem o_ixX (hu : X.A.units + 65 < cLine) : Ix2 X opIxX := by
  refine ⟨opIxX_mono, fun value slice pins s σ H x y v u Q I rx ry h hs => ?_⟩
  obtain ⟨g, d, e, K, tr, c1, c2, q, fin⟩ := h
  unfold opIxX at q
  split at q
  · obtain ⟨⟨q1, q2⟩, i, z, q3, q4, q⟩ := q
    obtain ⟨a, es, ep, rfl, h1, h2, h3, h4⟩ := c1.dct
    cases rx
    obtain ⟨dv, w', r1, r2, ty, go⟩ := dct_at (A := X.A) (E := X.xe) I hu h1 h3 h4 q1 q2 c2 ry q3 q4
    refine subscriptTail_builtinR (x := w') ty PySem.F.slot_dict_getitem.lookup (go _ fun t => ⟨rfl, ?_⟩) hs
    exact ⟨dv, H, I.tok t, r2, fin _ _ (rk_rep r1 q)⟩
  · exact o_ixSeq.ix value slice pins s σ H x y v u Q I rx ry ⟨g, _, _, K, tr, c1, c2, q, fin⟩ hs
end
end VC

set_option Elab.async false
set_option linter.all false
set_option maxRecDepth 100000
set_option maxHeartbeats 4000000
/-! VT: d[k] = v; displays of dicts; len. -/
namespace VC
open PySem PySem.Spec PyProof.Rows L2
theorem dictAt_stays {a : Addr} {es : List DictEntry × Nat} (h1 h2 : Heap) (p : DictAt a es h1) (k : ∀ o, h1.get? a = some o → h2.get? a = some o) : DictAt a es h2 := let ⟨o, e, r⟩ := p; ⟨o, k o e, r⟩
theorem dictAt_ok {P : Program} {w : World} {H : Hp} {h : Heap} {a : Addr} {es : List DictEntry × Nat} (p : DictAt a es h) : ObjOk P w H h a (.ext (DictAt a es)) := ⟨p, let ⟨o, e, _⟩ := p; ⟨o, e⟩, dictAt_stays⟩
section
variable {X : Cx} {pins : List (Addr × Obj)} {s : Shared} {σ : L2.St} {H : Hp} {mg : Str → Option Value} {w : WK} {g : Gh} {a : Addr} {es : List DictEntry} {ep : Nat} {ks ds : List D} {k d : D}
theorem RepEs.koks : ∀ {ks ds : List D} {es : List DictEntry}, RepEs mg w g H ks ds es → (∀ q ∈ ks, kok q 8 = true) ∧ ds.length = ks.length ∧ es.length = ks.length
  | _, _, _, .nil => ⟨fun q h => by simp at h, rfl, rfl⟩
  | _, _, _, .cons h1 h2 h3 h4 h5 h6 h7 h8 => by
    obtain ⟨i1, i2, i3⟩ := RepEs.koks h8
    refine ⟨fun q hq => ?_, by simp [i2], by simp [i3]⟩
    rcases List.mem_cons.mp hq with rfl | hq
    · exact h5
    · exact i1 q hq
theorem nodup_app (hk : ∀ q ∈ ks, kok q 8 = true) (n : (ks.map D.key).Nodup) (k1 : kok k 8 = true) (h : k ∉ ks) : ((ks ++ [k]).map D.key).Nodup := by
  rw [List.map_append, List.nodup_append]
  refine ⟨n, by simp, fun x hx y hy => ?_⟩
  obtain ⟨q, hq, rfl⟩ := List.mem_map.mp hx
  simp at hy
  subst hy
  intro e
  exact h (key_inj _ _ _ _ k1 (hk q hq) e.symm ▸ hq)
/-- d[k] = v in the heap -/
theorem dct_set {x y : V} {v u : Value} {A : Around} {E : Value → Shared → Prop} {Q : Unit → Shared → Prop} (I : Inv X pins σ H s) (hu : A.units + 65 < cLine) (h : H a = some (.ext (DictAt a (es, ep)))) (hs : (a == sysModules) = false) (r : RepEs X.mg X.wk g H ks ds es) (n : (ks.map D.key).Nodup) (hk : kok k 8 = true) (kd : Kinds ks k) (hl : ks.length < 1000000)
    (rk : Rep X.mg X.wk g H k x) (rv : RelV x v) (rd : Rep X.mg X.wk g H d y) (ry : RelV y u)
    (q : (∃ j : Nat, ks[j]? = some k ∧ ∀ es' ep' s', RepEs X.mg X.wk g H ks (ds.set j d) es' → Inv X pins σ (upd H a (.ext (DictAt a (es', ep')))) s' → Q () s') ∨ (k ∉ ks ∧ ∀ es' ep' s', RepEs X.mg X.wk g H (ks ++ [k]) (ds ++ [d]) es' → Inv X pins σ (upd H a (.ext (DictAt a (es', ep')))) s' → Q () s')) :
    wpAny (model X.prog X.w) A (setItem (.ref a) v u) Q E s := by
  obtain ⟨nk, ek, dp⟩ := kok_key k 8 hk
  have mu : Mut (H a) := by rw [h]; exact True.intro
  rcases kd with ⟨h1, h2⟩ | ⟨h1, h2⟩
  · obtain ⟨b, rfl, _⟩ := Cont.isT (.inl rk) h1
    cases rv
    obtain ⟨xs, t, e, dd⟩ := Inv.dctH I h r n h2
    have is : (nestedKind X.prog X.w).is s.heap nk b := ⟨Rep.nested I rk ek rfl, dp⟩
    have hu' : (nestedKind X.prog X.w).room A.in1 := by show A.units + 1 + 8 < cLine; omega
    refine wpAny_setItem_heap (hsz := by rw [t.len.1]; exact Nat.le_of_lt (Nat.lt_of_lt_of_le hl (by decide))) hu' is dd fun h' dd' sb => ?_
    obtain ⟨o, es', ep, e1, e2, e3, e4, _⟩ := dd'
    have pd : DictAt a ((storedH xs nk b u).map (entryOfKey (nestedKind X.prog X.w)), ep) h' := ⟨o, e1, e2, by rw [e3, ← e4]⟩
    have I' : ∀ tk, Inv X pins σ (upd H a (.ext (DictAt a ((storedH xs nk b u).map (entryOfKey (nestedKind X.prog X.w)), ep)))) { s with heap := h', toks := tk } := fun tk => d_write I mu sb ⟨o, e1⟩ (dictAt_ok pd)
    rcases q with ⟨j, hj, q⟩ | ⟨hn, q⟩
    · have hj' : j < ds.length := by rw [t.len.2]; exact (List.getElem?_eq_some_iff.mp hj).1
      obtain ⟨p, dv, e5, _⟩ := TT3.at ek t n hj (List.getElem?_eq_getElem hj')
      refine q _ _ _ ?_ (I' _)
      rw [storedH_old e5]
      exact TT3.es (X := X) (TT3.put ek rd ry t n hj)
    · refine q _ _ _ ?_ (I' _)
      rw [storedH_new (TT3.none hk ek t hn)]
      exact TT3.es (X := X) (TT3.app hk ek rk rd ry t)
  · obtain ⟨kk, rfl⟩ := kD_of h1
    have ki : keyIs kk v = true := keyIs_of (P := X.prog) (w := X.w) rk rv
    obtain ⟨xs, t, dd⟩ := Inv.dctL I h r n h2
    refine wpAny_setItem_pairs (hsz := by rw [t.len.1]; exact Nat.le_of_lt (Nat.lt_of_lt_of_le hl (by decide))) (knd := mixKind X.prog X.w) ki dd fun h' dd' sb => ?_
    obtain ⟨o, es', ep, e1, e2, e3, e4, e5, e6⟩ := dd'
    have pd : DictAt a (es'.toList, ep) h' := ⟨o, e1, e2, by rw [e3]⟩
    have I' : ∀ tk, Inv X pins σ (upd H a (.ext (DictAt a (es'.toList, ep)))) { s with heap := h', toks := tk } := fun tk => d_write I mu sb ⟨o, e1⟩ (dictAt_ok pd)
    have hq : ∀ e ∈ es'.toList, ∃ k, keyIs k e.key = true ∧ e.hash = keyH X.w k := fun e he => e4 e (by simpa using he)
    rcases q with ⟨j, hj, q⟩ | ⟨hn, q⟩
    · have hj' : j < ds.length := by rw [t.len.2]; exact (List.getElem?_eq_some_iff.mp hj).1
      obtain ⟨p, dv, e7, _⟩ := LL3.at t n hj (List.getElem?_eq_getElem hj')
      refine q _ _ _ ?_ (I' _)
      have hany : xs.any (fun kv => kv.1 = kk) = true := by
        unfold valueAt at e7
        cases hf : xs.find? fun kv => kv.1 = kk with
        | none => rw [hf] at e7; cases e7
        | some z => exact List.any_eq_true.mpr ⟨z, List.mem_of_find?_eq_some hf, List.find?_some (p := fun kv : Key × Value => decide (kv.1 = kk)) hf⟩
      have e8 : stored xs kk u = xs.map fun kv => if kv.1 = kk then (kv.1, u) else kv := by unfold stored; rw [if_pos hany]
      rw [e8] at e5
      exact LL3.es (P := X.prog) (w := X.wk) (LL3.put rd ry t n hj) e5 hq
    · refine q _ _ _ ?_ (I' _)
      have hany : xs.any (fun kv => kv.1 = kk) = false := by
        rw [List.any_eq_false]
        intro x hx e
        have e : x.1 = kk := of_decide_eq_true e
        exact hn (by rw [t.nod]; exact List.mem_map.mpr ⟨x, hx, by rw [e]⟩)
      have e8 : stored xs kk u = xs ++ [(kk, u)] := by unfold stored; rw [if_neg (by rw [hany]; exact Bool.false_ne_true)]
      rw [e8] at e5
      exact LL3.es (P := X.prog) (w := X.wk) (LL3.app rd ry t) e5 hq
end
section
variable {X : Cx} {B : Hp} {g0 : Gh} {pos : Pos}
/-- d[k] = v for dicts and lists -/
def rSetX (X : Cx) : V → V → V → Hp → (Hp → Prop) → Prop := fun o i v H Q => rSetL o i v H Q ∨
  ∃ a es ep g ks ds k d, o = .ref a ∧ H a = some (.ext (DictAt a (es, ep))) ∧ (a == sysModules) = false ∧ RepEs X.mg X.wk g H ks ds es ∧ (ks.map D.key).Nodup ∧ kok k 8 = true ∧ Kinds ks k ∧ ks.length < 1000000 ∧ Rep X.mg X.wk g H k i ∧ Rep X.mg X.wk g H d v ∧
    ((∃ j : Nat, ks[j]? = some k ∧ ∀ es' ep', RepEs X.mg X.wk g H ks (ds.set j d) es' → Q (upd H a (.ext (DictAt a (es', ep'))))) ∨ (k ∉ ks ∧ ∀ es' ep', RepEs X.mg X.wk g H (ks ++ [k]) (ds ++ [d]) es' → Q (upd H a (.ext (DictAt a (es', ep'))))))
theorem set_x (hu : X.A.units + 65 < cLine) : PSet X (rSetX X) := by
  intro pins s σ H o i v ov iv u Q I ro ri rv h
  rcases h with h | ⟨a, es, ep, g, ks, ds, k, d, rfl, h1, h2, h3, h4, h5, h6, h7, h8, h9, q⟩
  · exact set_list pins s σ H o i v ov iv u Q I ro ri rv h
  · cases ro
    refine dct_set (A := X.A) (E := X.xe) I hu h1 h2 h3 h4 h5 h6 h7 h8 ri h9 rv ?_
    rcases q with ⟨j, hj, q⟩ | ⟨hn, q⟩
    · exact .inl ⟨j, hj, fun es' ep' s' r' I' => ⟨_, I', q es' ep' r'⟩⟩
    · exact .inr ⟨hn, fun es' ep' s' r' I' => ⟨_, I', q es' ep' r'⟩⟩
def wSetX (i : Nat) (We : WE) (Wk : WO) : WS := fun D env S => We env S fun t env1 S1 => match slot env1 i with
  | some (.own (.dct ks ds)) => Wk env1 S1 fun k env2 S2 => (slot env2 i = some (.own (.dct ks ds)) ∧ kok k 8 = true ∧ Kinds ks k ∧ ks.length < 100000) ∧
      ((∃ j : Nat, ks[j]? = some k ∧ D.nx (env2.set i (some (.own (.dct ks (ds.set j t.d))))) S2) ∨ (k ∉ ks ∧ D.nx (env2.set i (some (.own (.dct (ks ++ [k]) (ds ++ [t.d]))))) S2))
  | some (.own (.lst ds)) => Wk env1 S1 fun k env2 S2 => match k with
    | .int j => (slot env2 i = some (.own (.lst ds))) ∧ setD ds j t.d fun ds' => D.nx (env2.set i (some (.own (.lst ds')))) S2
    | _ => False
  | some (.val (.ref r)) => Wk env1 S1 fun k env2 S2 => match k, S2[r]? with
    | .int j, some (.lst ds) => setD ds j t.d fun ds' => D.nx env2 (S2.set r (.lst ds'))
    | _, _ => False
  | _ => False
theorem vs_setX {i : Nat} {e o k : Expr} {We : WE} {Wk : WO} {p : Pos} (he : VE X B g0 e We) (ho : PE X o (tVar i)) (hk : VO X B g0 k Wk)
    (hp : ∀ te to ti, PE X e te → PE X o to → PE X k ti → PS X (.Assign [.Subscript o k p] e pos) (tAsg te (gSub to ti (rSetX X)))) : VS X B g0 (.Assign [.Subscript o k p] e pos) (wSetX i We Wk) := by
  refine VS.of (fun _ _ _ _ kk q => he.mono _ _ _ _ (fun t _ _ q => ?_) q) (hp _ _ _ he.pe ho hk.pe) fun σ H env S g De R q => ?_
  · split at q
    · exact hk.mono _ _ _ _ (fun x _ _ q => ⟨q.1, q.2.imp (fun ⟨j, h, q⟩ => ⟨j, h, kk.nx _ _ q⟩) (fun ⟨h, q⟩ => ⟨h, kk.nx _ _ q⟩)⟩) q
    · exact hk.mono _ _ _ _ (fun x _ _ q => by
        split at q
        · exact ⟨q.1, setD_mono (fun _ => kk.nx _ _) q.2⟩
        · exact q) q
    · exact hk.mono _ _ _ _ (fun x _ _ q => by
        split at q
        · exact setD_mono (fun _ => kk.nx _ _) q
        · exact q) q
    · exact q
  · refine ⟨env, S, g, _, R, q, fun v H1 ⟨g1, t, env1, S1, st1, R1, rt, q1⟩ => ?_⟩
    obtain ⟨g1', st1', R1', rv⟩ := rt.hold R1
    dsimp only at q1
    split at q1
    · rename_i ks ds hsl
      obtain ⟨a, hv, hm, _⟩ := R1'.own i _ (slot_get hsl)
      refine ⟨_, hv, env1, S1, g1', _, R1', q1, fun kv H2 ⟨g2, kd, env2, S2, st2, R2, t2, q2⟩ => ?_⟩
      obtain ⟨⟨hs2, hk1, hk2, hlen⟩, q2⟩ := q2
      obtain ⟨a2, hv2, ⟨es, ep, h1, h1', h2, h2'⟩, n1, n2, n3⟩ := R2.own i _ (slot_get hs2)
      rw [hv] at hv2; cases hv2
      have rv2 := rv.mono st2.toFz
      have rk : Rep X.mg X.wk g2 H2 kd kv := by
        have cc := t2.cont R2.sto
        have ed : dr S2 kd = kd := by
          rcases hk2 with ⟨h, _⟩ | ⟨h, _⟩
          · cases kd <;> first | rfl | simp [D.isT] at h
          · cases kd <;> first | rfl | simp [D.isL] at h
        rw [ed] at cc
        rcases hk2 with ⟨h, _⟩ | ⟨h, _⟩
        · exact (cc.isT h).choose_spec.2
        · exact cc.isL h
      have kks := h2.koks
      have fin : ∀ ks' ds' es' ep', RepEs X.mg X.wk g2 H2 ks' ds' es' → (ks'.map D.key).Nodup → De.nx (env2.set i (some (.own (.dct ks' ds')))) S2 → NQ X B g0 g H De.nx σ (upd H2 a (.ext (DictAt a (es', ep')))) := fun ks' ds' es' ep' r n q => by
        have z := Fz.upd (g := g2) (u := HO.ext (DictAt a (es', ep'))) h1 (fun _ q => nomatch q) n2
        obtain ⟨RP, z'⟩ := R2.mutOwn (m' := .dct ks' ds') (slot_get hs2) hv ⟨es', ep', upd_same, h1', r.mono z, n⟩
        exact ⟨g2, _, S2, ((st1.trans st1').trans st2).toFz.trans z', RP, q⟩
      refine .inr ⟨a, es, ep, g2, ks, ds, kd, t.d, rfl, h1, h1', h2, h2', hk1, hk2, Nat.lt_of_lt_of_le hlen (by decide), rk, rv2, ?_⟩
      rcases q2 with ⟨j, hj, q2⟩ | ⟨hn, q2⟩
      · exact .inl ⟨j, hj, fun es' ep' r => fin _ _ es' ep' r h2' q2⟩
      · exact .inr ⟨hn, fun es' ep' r => fin _ _ es' ep' r (nodup_app kks.1 h2' hk1 hn) q2⟩
    · rename_i ds hsl
      obtain ⟨a, hv, hm, _⟩ := R1'.own i _ (slot_get hsl)
      refine ⟨_, hv, env1, S1, g1', _, R1', q1, fun kv H2 ⟨g2, kd, env2, S2, st2, R2, t2, q2⟩ => .inl ?_⟩
      dsimp only at q2
      split at q2
      · obtain ⟨hs2, q2⟩ := q2
        have hkv := (t2.cont R2.sto)
        have : kv = .int _ := Cont.int (by simpa [dr] using hkv)
        subst this
        unfold setD at q2
        split at q2
        · rename_i j hj
          obtain ⟨a2, hv2, ⟨vs, h1, h2⟩, n1, n2, n3⟩ := R2.own i _ (slot_get hs2)
          rw [hv] at hv2; cases hv2
          have rv2 := rv.mono st2.toFz
          have z := Fz.upd (g := g2) (u := HO.lst (vs.set j v)) h1 (fun _ q => nomatch q) n2
          obtain ⟨RP, z'⟩ := R2.mutOwn (m' := .lst (ds.set j t.d)) (slot_get hs2) hv ⟨_, upd_same, (RepAll.set rv2 j h2).mono z⟩
          exact ⟨a, vs, _, j, rfl, rfl, h1, by rw [← h2.length]; exact placeD_ix hj, g2, _, S2, ((st1.trans st1').trans st2).toFz.trans z', RP, q2⟩
        · exact q2.elim
      · exact q2.elim
    · rename_i r hsl
      obtain ⟨v0, hv, hr⟩ := R1'.val i _ (slot_get hsl)
      cases hr with
      | @ref _ a ha =>
        refine ⟨_, hv, env1, S1, g1', _, R1', q1, fun kv H2 ⟨g2, kd, env2, S2, st2, R2, t2, q2⟩ => .inl ?_⟩
        dsimp only at q2
        split at q2
        · rename_i jj ds hS2
          have hkv := (t2.cont R2.sto)
          have : kv = .int _ := Cont.int (by simpa [dr] using hkv)
          subst this
          unfold setD at q2
          split at q2
          · rename_i j hj
            have ha2 := st2.toFz.get ha
            obtain ⟨vs, h1, h2⟩ := R2.sto.at_ r a _ ha2 hS2
            have rv2 := rv.mono st2.toFz
            have z := Fz.upd (g := g2) (u := HO.lst (vs.set j v)) h1 (fun _ q => nomatch q) (R2.sto.nF a (List.mem_of_getElem? ha2))
            obtain ⟨RP, z'⟩ := R2.mutSto (m' := .lst (ds.set j t.d)) hS2 ha2 ⟨_, upd_same, (RepAll.set rv2 j h2).mono z⟩
            exact ⟨a, vs, _, j, rfl, rfl, h1, by rw [← h2.length]; exact placeD_ix hj, g2, _, _, ((st1.trans st1').trans st2).toFz.trans z', RP, q2⟩
          · exact q2.elim
        · exact q2.elim
    · exact q1.elim
/-! ### {} -/
def wDct0 : WE := fun env S Q => Q (.own (.dct [] [])) env S
theorem ve_dct0 : VE X B g0 (.Dict [] [] pos) wDct0 := by
  have pe : PE X (.Dict [] [] pos) (fun _ H Q => ∀ p, H p = none → (p == sysModules) = false → Q (.ref p) (upd H p (.ext (DictAt p ([], 0))))) := ⟨fun pins s σ H Q I h => by
    refine wpAny_Dict_empty ?_
    have hb : (s.heap.objs.size == sysModules) = false := beq_eq_false_iff_ne.mpr (Ne.symm (Nat.ne_of_lt I.big))
    have ok : DictAt s.heap.objs.size ([], 0) (s.heap.push { cls := .type "dict", data := .dict #[] }) := ⟨_, Heap.get?_push_size _ rfl, ⟨rfl, rfl, rfl⟩, rfl⟩
    exact ⟨.ref s.heap.objs.size, _, I.laid (a := s.heap.objs.size) (o := .ext (DictAt s.heap.objs.size ([], 0))) (t' := s.toks) (fun _ _ q => Heap.get?_push_of_some _ q) (Nat.le_refl _) (dictAt_ok ok), rfl, h _ (I.hok.fresh (Nat.le_refl _)) hb⟩⟩
  refine VE.of (fun _ _ _ _ i q => i _ _ _ q) pe fun σ H env S g Q R q p hp hs => ?_
  have hn := New.upd (o := HO.ext (DictAt p ([], 0))) hp
  exact ⟨g, .own (.dct [] []), env, S, hn.stp R.sto.tr, R.new hn, R.rt hn ⟨p, rfl, ⟨[], 0, upd_same, hs, .nil, List.nodup_nil⟩, hp⟩, q⟩
end
end VC

set_option Elab.async false
set_option linter.all false
set_option maxRecDepth 100000
set_option maxHeartbeats 4000000
/-! VU: {k: v}. -/
namespace VC
open PySem PySem.Spec PyProof.Rows L2
section
variable {X : Cx} {B : Hp} {g0 : Gh} {k v : Expr} {pos : Pos}
def wDct1 (isT : Bool) (Wk Wv : WE) : WE := fun env S Q => Wk env S fun tk env1 S1 => Wv env1 S1 fun tv env2 S2 => (kok tk.d 8 = true ∧ (if isT then tk.d.isT else tk.d.isL) = true) ∧ Q (.own (.dct [tk.d] [tv.d])) env2 S2
theorem pe_u {e : Expr} {W : WE} (h : ∀ B' g', VE X B' g' e W) : PE X e (tEu X W) := ⟨fun pins s σ H Q I ⟨B', g', q⟩ => (h B' g').pe.run pins s σ H Q I q⟩
/-- what stands behind the two -/
def D1Q (X : Cx) (B : Hp) (g0 : Gh) (g : Gh) (H : Hp) (σ : L2.St) (isT : Bool) (Q : T → VEnv → Sto → Prop) (p : Addr) : List (V × V) → Hp → Prop := fun ps H2 => ∃ x y g2 dk dv env2 S2, ps = [(x, y)] ∧ Rp X.mg X.wk B g0 g2 H2 σ env2 S2 ∧ Stp g H g2 H2 ∧ H2 p = some (.ext (DictAt p ([], 0))) ∧ (p == sysModules) = false ∧ B p = none ∧ ¬ g2.F p ∧ p ∉ g2.ρ ∧ ¬ OwnAt σ env2 p ∧ H p = none ∧
  Rep X.mg X.wk g2 H2 dk x ∧ Rep X.mg X.wk g2 H2 dv y ∧ kok dk 8 = true ∧ (if isT then dk.isT else dk.isL) = true ∧ Q (.own (.dct [dk] [dv])) env2 S2
theorem d1_imp {isT : Bool} {Wk Wv : WE} {σ : L2.St} {H : Hp} {env : VEnv} {S : Sto} {g : Gh} {Q : T → VEnv → Sto → Prop} {p : Addr} (R : Rp X.mg X.wk B g0 g H σ env S) (q : wDct1 isT Wk Wv env S Q) (hp : H p = none) (hs : (p == sysModules) = false) :
    tPairs [(tEu X Wk, tEu X Wv)] σ (upd H p (.ext (DictAt p ([], 0)))) (D1Q X B g0 g H σ isT Q p) := by
  have hn := New.upd (o := HO.ext (DictAt p ([], 0))) hp
  have R0 := R.new hn
  have st0 := hn.stp (g := g) R.sto.tr
  have no0 : ¬ OwnAt σ env p := fun ⟨i, m, e, q⟩ => by
    obtain ⟨a, k1, k2, _⟩ := R.own i m e
    rw [q] at k1; cases k1
    obtain ⟨o, k3, _⟩ := k2.there
    rw [hp] at k3; cases k3
  refine ⟨_, _, env, S, g, _, R0.rebase, q, fun x H1 ⟨g1, tk, env1, S1, st1, R1, rt1, q1⟩ => ?_⟩
  have rt1' : ∃ g1', Stp g1 H1 g1' H1 ∧ Rp X.mg X.wk (reB (upd H p (.ext (DictAt p ([], 0)))) σ env) g g1' H1 σ env1 S1 ∧ Rep X.mg X.wk g1' H1 tk.d x := rt1.hold R1
  obtain ⟨g1', st1', R1', rx⟩ := rt1'
  obtain ⟨a1, a2, a3, a4⟩ := R1'.apart upd_same no0 (R.nF hp) (R.nρ hp)
  refine ⟨_, _, env1, S1, g1', _, R1'.rebase, q1, fun y H2 ⟨g2, tv, env2, S2, st2, R2, rt2, q2⟩ => ?_⟩
  obtain ⟨g2', st2', R2', ry⟩ := rt2.hold R2
  obtain ⟨b1, b2, b3, b4⟩ := R2'.apart a1 a2 a3 a4
  have R3 := R0.unbase (R1'.unbase R2')
  refine ⟨x, y, g2', tk.d, tv.d, env2, S2, rfl, R3, (((st0.trans st1).trans st1').trans st2).trans st2', b1, hs, R.bn hp, b3, b4, b2, hp, rx.mono (st2.trans st2').toFz, ry, q2.1.1, q2.1.2, q2.2⟩
theorem d1_fin {σ : L2.St} {H H2 : Hp} {g g2 : Gh} {env2 : VEnv} {S2 : Sto} {Q : T → VEnv → Sto → Prop} {p : Addr} {dk dv : D} {es : List DictEntry} {ep : Nat} (R : Rp X.mg X.wk B g0 g2 H2 σ env2 S2) (st : Stp g H g2 H2) (h2 : H2 p = some (.ext (DictAt p ([], 0)))) (hs : (p == sysModules) = false) (hB : B p = none) (nF : ¬ g2.F p) (nρ : p ∉ g2.ρ) (no : ¬ OwnAt σ env2 p) (hp : H p = none)
    (r : RepEs X.mg X.wk g2 H2 [dk] [dv] es) (q : Q (.own (.dct [dk] [dv])) env2 S2) : VQ X B g0 g H σ Q (.ref p) (upd H2 p (.ext (DictAt p (es, ep)))) := by
  have z : Fz g2 H2 g2 (upd H2 p (.ext (DictAt p (es, ep)))) := Fz.upd h2 (fun _ q => nomatch q) nF
  have RM := R.mut (u := .ext (DictAt p (es, ep))) h2 (fun _ q => nomatch q) nF nρ hB (fun j m e q => no ⟨j, m, e, q⟩)
  refine ⟨g2, .own (.dct [dk] [dv]), env2, S2, ⟨st.toFz.trans z, fun a o e ha => ?_, st.rN⟩, RM, ⟨p, rfl, ⟨es, ep, upd_same, hs, r.mono z, by simp⟩, hB, nF, nρ, fun i m' e q => no ⟨i, m', e, q⟩⟩, q⟩
  have na : a ≠ p := fun q => by rw [q, hp] at e; cases e
  rw [upd_ne na]
  exact st.oth a o e ha
theorem ve_dct1T {Wk Wv : WE} (hu : X.A.units + 65 < cLine) (hk : ∀ B' g', VE X B' g' k Wk) (hv : ∀ B' g', VE X B' g' v Wv) : VE X B g0 (.Dict [some k] [v] pos) (wDct1 true Wk Wv) := by
  refine ⟨fun _ _ _ _ i q => (hk B g0).mono _ _ _ _ (fun _ _ _ q => (hv B g0).mono _ _ _ _ (fun _ _ _ q => ⟨q.1, i _ _ _ q.2⟩) q) q, ⟨fun pins s σ H Q I ⟨env, S, g, Q0, R, hW, i⟩ => ?_⟩⟩
  have pps : PPs X pos [some k] [v] [(tEu X Wk, tEu X Wv)] := pps_cons (pe_u hk) (pe_u hv) pps_nil
  have hb : (s.heap.objs.size == sysModules) = false := beq_eq_false_iff_ne.mpr (Ne.symm (Nat.ne_of_lt I.big))
  have hn := I.hok.fresh (Nat.le_refl s.heap.objs.size)
  have ok : DictAt s.heap.objs.size ([], 0) (s.heap.push { cls := .type "dict", data := .dict #[] }) := ⟨_, Heap.get?_push_size _ rfl, ⟨rfl, rfl, rfl⟩, rfl⟩
  have I1 := I.laid (a := s.heap.objs.size) (o := .ext (DictAt s.heap.objs.size ([], 0))) (h' := s.heap.push { cls := .type "dict", data := .dict #[] }) (t' := s.toks) (fun _ _ q => Heap.get?_push_of_some _ q) (Nat.le_refl _) (dictAt_ok ok)
  have hpl : (pairTrees [some k] [v] X.env pos).length = 1 := pairTrees_length _ _ _ _ rfl rfl
  rw [arm_eval_Dict, zip_pairTrees [some k] [v] X.env pos rfl rfl, dictDisplay_pairs _ (fun e => by rw [e] at hpl; cases hpl) (by omega)]
  have hu' : (nestedKind X.prog X.w).room X.A := by show X.A.units + 8 < cLine; omega
  refine wpAny_bind (wpAny_standAt (wpAny_bind (wpAny_subDictH (knd := nestedKind X.prog X.w) hu' (by omega) (thn (pps.run pins _ σ _ _ I1 (d1_imp R hW hn hb)) fun vs s2 ⟨ps, H2, I2, rel, z⟩ => ?_))))
  obtain ⟨x, y, g2, dk, dv, env2, S2, rfl, R2, st, h2, _, hB, nF, nρ, no, hp, rx, ry, k1, k2, q⟩ := z
  cases rel with
  | @cons a b as bs h t =>
    cases t
    obtain ⟨bk, bv⟩ := b
    obtain ⟨r1, r2⟩ := h
    obtain ⟨nk, ek, dp⟩ := kok_key dk 8 k1
    obtain ⟨b, rfl, _⟩ := Cont.isT (.inl rx) k2
    have r1' : bk = .ref b := r1
    subst r1'
    obtain ⟨o, e1, e2, e3⟩ := Inv.dct I2 h2
    refine ⟨[(nk, b, bv)], ⟨rfl, rfl, ⟨Rep.nested I2 rx ek rfl, dp⟩, trivial⟩, ⟨o, _, _, e1, e2, e3, rfl, fun x h => by simp at h, List.nodup_nil⟩, fun h' tk dd sb => ?_⟩
    obtain ⟨o', es', ep', f1, f2, f3, f4, _⟩ := dd
    have pd : DictAt s.heap.objs.size ((storedAllH [] [(nk, b, bv)]).map (entryOfKey (nestedKind X.prog X.w)), ep') h' := ⟨o', f1, f2, by rw [f3, ← f4]⟩
    have I3 : Inv X pins σ (upd H2 s.heap.objs.size (.ext (DictAt s.heap.objs.size _))) { s2 with heap := h', toks := tk } := d_write I2 (by rw [h2]; exact True.intro) sb ⟨o', f1⟩ (dictAt_ok pd)
    have r : RepEs X.mg X.wk g2 H2 [dk] [dv] ((storedAllH [] [(nk, b, bv)]).map (entryOfKey (nestedKind X.prog X.w))) := TT3.es (X := X) (xs := [(nk, b, bv)]) (.cons k1 ek rx ry r2 .nil)
    exact wpAny_pure ⟨.ref _, _, I3, rfl, i _ _ (d1_fin R2 st h2 hb hB nF nρ no hp r q)⟩
theorem ve_dct1L {Wk Wv : WE} (hk : ∀ B' g', VE X B' g' k Wk) (hv : ∀ B' g', VE X B' g' v Wv) : VE X B g0 (.Dict [some k] [v] pos) (wDct1 false Wk Wv) := by
  refine ⟨fun _ _ _ _ i q => (hk B g0).mono _ _ _ _ (fun _ _ _ q => (hv B g0).mono _ _ _ _ (fun _ _ _ q => ⟨q.1, i _ _ _ q.2⟩) q) q, ⟨fun pins s σ H Q I ⟨env, S, g, Q0, R, hW, i⟩ => ?_⟩⟩
  have pps : PPs X pos [some k] [v] [(tEu X Wk, tEu X Wv)] := pps_cons (pe_u hk) (pe_u hv) pps_nil
  have hb : (s.heap.objs.size == sysModules) = false := beq_eq_false_iff_ne.mpr (Ne.symm (Nat.ne_of_lt I.big))
  have hn := I.hok.fresh (Nat.le_refl s.heap.objs.size)
  have ok : DictAt s.heap.objs.size ([], 0) (s.heap.push { cls := .type "dict", data := .dict #[] }) := ⟨_, Heap.get?_push_size _ rfl, ⟨rfl, rfl, rfl⟩, rfl⟩
  have I1 := I.laid (a := s.heap.objs.size) (o := .ext (DictAt s.heap.objs.size ([], 0))) (h' := s.heap.push { cls := .type "dict", data := .dict #[] }) (t' := s.toks) (fun _ _ q => Heap.get?_push_of_some _ q) (Nat.le_refl _) (dictAt_ok ok)
  refine wpAny_Dict_walk (knd := mixKind X.prog X.w) rfl rfl (by simp) (by simp) (thn (pps.run pins _ σ _ _ I1 (d1_imp R hW hn hb)) fun vs s2 ⟨ps, H2, I2, rel, z⟩ => ?_)
  obtain ⟨x, y, g2, dk, dv, env2, S2, rfl, R2, st, h2, _, hB, nF, nρ, no, hp, rx, ry, k1, k2, q⟩ := z
  cases rel with
  | @cons a b as bs h t =>
    cases t
    obtain ⟨bk, bv⟩ := b
    obtain ⟨r1, r2⟩ := h
    obtain ⟨kk, rfl⟩ := kD_of k2
    have ki : keyIs kk bk = true := keyIs_of (P := X.prog) (w := X.w) rx r1
    obtain ⟨o, e1, e2, e3⟩ := Inv.dct I2 h2
    refine ⟨[(kk, bv)], ⟨ki, rfl, trivial⟩, ⟨o, _, _, e1, e2, e3, fun e h => by simp at h, .nil, List.nodup_nil⟩, fun h' dd sb => ?_⟩
    obtain ⟨o', es', ep', f1, f2, f3, f4, f5, f6⟩ := dd
    have pd : DictAt s.heap.objs.size (es'.toList, ep') h' := ⟨o', f1, f2, by rw [f3]⟩
    have I3 : ∀ tk, Inv X pins σ (upd H2 s.heap.objs.size (.ext (DictAt s.heap.objs.size _))) { s2 with heap := h', toks := tk } := fun tk => d_write I2 (by rw [h2]; exact True.intro) sb ⟨o', f1⟩ (dictAt_ok pd)
    have r : RepEs X.mg X.wk g2 H2 [kD kk] [dv] es'.toList := LL3.es (P := X.prog) (w := X.wk) (kvs := [(kk, bv)]) (.cons (x := (kk, bv)) ry r2 .nil) f5 fun e he => f4 e (by simpa using he)
    exact ⟨.ref _, _, I3 _, rfl, i _ _ (d1_fin R2 st h2 hb hB nF nρ no hp r q)⟩
end
end VC

set_option Elab.async false
set_option linter.all false
set_option maxRecDepth 100000
set_option maxHeartbeats 4000000
/-! VV: chains of three comparisons; chains as tests. -/
namespace VC
open PySem PySem.Spec PyProof.Rows L2
section
variable {X : Cx} {B : Hp} {g0 : Gh} {a b c d : Expr} {pos : Pos}
def tCh3 (r r' r'' : R2) (ta tb tc td : TE) : TE := fun σ H Q => ta σ H fun x H1 => tb σ H1 fun y H2 => r x y H2 fun z H3 => ∃ k, z = .bl k ∧
  (if k = true then tc σ H3 fun u H4 => r' y u H4 fun z H5 => ∃ k, z = .bl k ∧ (if k = true then td σ H5 fun w' H6 => r'' u w' H6 Q else Q (.bl false) H5) else Q (.bl false) H3)
theorem pe_ch3 {op op' op'' : CmpOp} {r r' r'' : R2} {ta tb tc td : TE} (ho : OpR X (compareOp op) r) (ho' : OpR X (compareOp op') r') (ho'' : OpR X (compareOp op'') r'') (ha : PE X a ta) (hb : PE X b tb) (hc : PE X c tc) (hd : PE X d td)
    (hm : lastMarks [op, op', op''] [b, c, d] = false := by with_unfolding_all rfl) : PE X (.Compare a [op, op', op''] [b, c, d] pos) (tCh3 r r' r'' ta tb tc td) := by
  refine ⟨fun pins s σ H Q I h => ?_⟩
  refine Compare_chain (thn (ha.run pins s σ H _ I h) fun v s1 ⟨x, H1, I1, r1, q1⟩ => chain_link (thn (hb.run pins s1 σ H1 _ I1 q1) fun u s2 ⟨y, H2, I2, r2, q2⟩ =>
    thn (ho pins s2 σ H2 x y v u _ I2 r1 r2 q2) fun e s3 ⟨z, H3, I3, r3, k, ek, q3⟩ => ?_)) hm
  subst ek
  cases r3
  refine wpAny_truthy_bool ?_
  cases k with
  | false => exact ite_ff ⟨.bl false, H3, I3, rfl, q3⟩
  | true =>
    refine ite_tt (chain_link (thn (hc.run pins s3 σ H3 _ I3 q3) fun u' s4 ⟨y', H4, I4, r4, q4⟩ => thn (ho' pins s4 σ H4 y y' u u' _ I4 r2 r4 q4) fun e s5 ⟨z, H5, I5, r5, k, ek, q5⟩ => ?_))
    subst ek
    cases r5
    refine wpAny_truthy_bool ?_
    cases k with
    | false => exact ite_ff ⟨.bl false, H5, I5, rfl, q5⟩
    | true => exact ite_tt (chain_last (thn (hd.run pins s5 σ H5 _ I5 q5) fun w' s6 ⟨z', H6, I6, r6, q6⟩ => ho'' pins s6 σ H6 y' z' u' w' Q I6 r4 r6 q6))
/-- a o b o' c o'' d -/
def wCh3 (o o' o'' : O2) (Wa Wb Wc Wd : WO) : WE := fun env S Q => Wa env S fun d env1 S1 => Wb env1 S1 fun e env2 S2 => o (dr S2 d) (dr S2 e) fun t => tb t fun k =>
  Ite k (Wc env2 S2 fun f env3 S3 => o' (dr S3 e) (dr S3 f) fun t => tb t fun k => Ite k (Wd env3 S3 fun h env4 S4 => o'' (dr S4 f) (dr S4 h) fun t => Q t env4 S4) (Q (.val (.bl false)) env3 S3)) (Q (.val (.bl false)) env2 S2)
theorem ve_chain3 {op op' op'' : CmpOp} {o o' o'' : O2} {Wa Wb Wc Wd : WO} (ho : Op2 X (compareOp op) o) (ho' : Op2 X (compareOp op') o') (ho'' : Op2 X (compareOp op'') o'') (ha : VO X B g0 a Wa) (hb : VO X B g0 b Wb) (hc : VO X B g0 c Wc) (hd : VO X B g0 d Wd)
    (hm : lastMarks [op, op', op''] [b, c, d] = false := by with_unfolding_all rfl) : VE X B g0 (.Compare a [op, op', op''] [b, c, d] pos) (wCh3 o o' o'' Wa Wb Wc Wd) := by
  refine VE.of (fun _ _ _ _ i q => ha.mono _ _ _ _ (fun _ _ _ q => hb.mono _ _ _ _ (fun _ _ _ q => ho.mono _ _ _ _ (fun t q => tb_mono (fun k q => ?_) q) q) q) q) (pe_ch3 ho.opr ho'.opr ho''.opr ha.pe hb.pe hc.pe hd.pe hm) fun σ H env S g Q R q => ?_
  · exact q.mono (hc.mono _ _ _ _ (fun _ _ _ q => ho'.mono _ _ _ _ (fun _ q => tb_mono (fun k q => q.mono (hd.mono _ _ _ _ (fun _ _ _ q => ho''.mono _ _ _ _ (fun _ q => i _ _ _ q) q)) (i _ _ _)) q) q)) (i _ _ _)
  · refine ⟨env, S, g, _, R, q, fun x H1 ⟨g1, d, env1, S1, st1, R1, t1, q1⟩ => ⟨env1, S1, g1, _, R1, q1, fun y H2 ⟨g2, e, env2, S2, st2, R2, t2, q2⟩ => ?_⟩⟩
    refine ⟨g2, _, _, _, R2.sto.tr, (t1.stp st2).cont R2.sto, t2.cont R2.sto, q2, fun z H3 ⟨t, hn, rr, k⟩ => ?_⟩
    obtain ⟨k', rfl, k⟩ := tb_bl k
    cases rr
    refine ⟨k', rfl, ?_⟩
    have st3 := hn.stp (g := g2) R2.sto.tr
    have R3 := R2.new hn
    cases k' with
    | false => exact ⟨g2, .val (.bl false), env2, S2, (st1.trans st2).trans st3, R3, Rep.bl _, k.f⟩
    | true =>
      refine ⟨env2, S2, g2, _, R3, k.t, fun z4 H4 ⟨g4, f, env4, S4, st4, R4, t4, q4⟩ => ?_⟩
      refine ⟨g4, _, _, _, R4.sto.tr, ((t2.stp st3).stp st4).cont R4.sto, t4.cont R4.sto, q4, fun z5 H5 ⟨t5, hn5, rr5, k5⟩ => ?_⟩
      obtain ⟨k6, rfl, k5⟩ := tb_bl k5
      cases rr5
      refine ⟨k6, rfl, ?_⟩
      have st5 := hn5.stp (g := g4) R4.sto.tr
      have R5 := R4.new hn5
      have st15 := (((st1.trans st2).trans st3).trans st4).trans st5
      cases k6 with
      | false => exact ⟨g4, .val (.bl false), env4, S4, st15, R5, Rep.bl _, k5.f⟩
      | true =>
        refine ⟨env4, S4, g4, _, R5, k5.t, fun z7 H7 ⟨g7, h, env7, S7, st7, R7, t7, q7⟩ => ?_⟩
        refine ⟨g7, _, _, _, R7.sto.tr, ((t4.stp st5).stp st7).cont R7.sto, t7.cont R7.sto, q7, fun z8 H8 ⟨t8, hn8, rr8, k8⟩ => ?_⟩
        exact ⟨g7, t8, env7, S7, (st15.trans st7).trans (hn8.stp R7.sto.tr), R7.new hn8, R7.rt hn8 rr8, k8⟩
theorem vt_chain {op op' : CmpOp} {o o' : O2} {Wa Wb Wc : WO} (ho : Op2 X (compareOp op) o) (ho' : Op2 X (compareOp op') o') (ha : VO X B g0 a Wa) (hb : VO X B g0 b Wb) (hc : VO X B g0 c Wc)
    (hm : lastMarks [op, op'] [b, c] = false := by with_unfolding_all rfl) : VT X B g0 (.Compare a [op, op'] [b, c] pos) (wTst (wCh o o' Wa Wb Wc)) := by
  have hv := ve_chain (pos := pos) ho ho' ha hb hc hm
  refine VT.of (wTst_mono hv.mono) (pt_chain ho.opr ho'.opr ha.pe hb.pe hc.pe hm) fun σ H env S g Q R q => ?_
  have q : wCh o o' Wa Wb Wc env S (fun t env' S' => tb t fun k => Q k env' S') := q
  refine ⟨env, S, g, _, R, q, fun x H1 ⟨g1, d, env1, S1, st1, R1, t1, q1⟩ => ⟨env1, S1, g1, _, R1, q1, fun y H2 ⟨g2, e, env2, S2, st2, R2, t2, q2⟩ => ?_⟩⟩
  refine ⟨g2, _, _, _, R2.sto.tr, (t1.stp st2).cont R2.sto, t2.cont R2.sto, q2, fun z H3 ⟨t, hn, rr, k⟩ => ?_⟩
  obtain ⟨k', rfl, k⟩ := tb_bl k
  cases rr
  refine ⟨k', rfl, ?_⟩
  have st3 := hn.stp (g := g2) R2.sto.tr
  have R3 := R2.new hn
  cases k' with
  | true =>
    refine ⟨env2, S2, g2, _, R3, k.t, fun z4 H4 ⟨g4, f, env4, S4, st4, R4, t4, q4⟩ => ?_⟩
    refine ⟨g4, _, _, _, R4.sto.tr, ((t2.stp st3).stp st4).cont R4.sto, t4.cont R4.sto, q4, fun z5 H5 ⟨t5, hn5, rr5, k5⟩ => ?_⟩
    obtain ⟨k6, rfl, k5⟩ := tb_bl k5
    cases rr5
    exact ⟨k6, rfl, g4, env4, S4, (((st1.trans st2).trans st3).trans st4).trans (hn5.stp R4.sto.tr), R4.new hn5, k5⟩
  | false =>
    obtain ⟨k6, e6, k5⟩ := tb_bl k.f
    cases e6
    exact ⟨false, rfl, g2, env2, S2, (st1.trans st2).trans st3, R3, k5⟩
end
end VC

set_option Elab.async false
set_option linter.all false
set_option maxRecDepth 100000
set_option maxHeartbeats 4000000
/-! VX: dicts walked; len; lists of dicts. -/
namespace VC
open PySem PySem.Spec PyProof.Rows L2
section
variable {mg : Str → Option Value} {w : WK} {g : Gh} {H : Hp}
theorem RepEs.keysV : ∀ {ks ds : List D} {es : List DictEntry}, RepEs mg w g H ks ds es → ∃ vs, RepAll mg w g H ks vs ∧ Vals vs (es.map (·.key))
  | _, _, _, .nil => ⟨[], .nil, .nil⟩
  | _, _, _, .cons h1 h2 _ _ _ _ _ h8 => by
    obtain ⟨vs, a, b⟩ := RepEs.keysV h8
    exact ⟨_ :: vs, .cons h1 a, .cons h2 b⟩
theorem RepEs.valsV : ∀ {ks ds : List D} {es : List DictEntry}, RepEs mg w g H ks ds es → ∃ vs, RepAll mg w g H ds vs ∧ Vals vs (es.map (·.val))
  | _, _, _, .nil => ⟨[], .nil, .nil⟩
  | _, _, _, .cons _ _ h3 h4 _ _ _ h8 => by
    obtain ⟨vs, a, b⟩ := RepEs.valsV h8
    exact ⟨_ :: vs, .cons h3 a, .cons h4 b⟩
end
/-! ### the keys walked -/
def Itkd (d : Addr) (es : List DictEntry) (ep : Nat) (vs : List V) : It :=
  ⟨fun i H => H d = some (.ext (DictAt d (es, ep))) ∧ i < vs.length, fun i H x H' => H' = H ∧ vs[i]? = some x, fun i H => H d = some (.ext (DictAt d (es, ep))) ∧ vs.length ≤ i⟩
theorem turn_dk {P : Program} {w : World} {K : PySem.W.Frag} {tg : Expr} {es : List DictEntry} {ep : Nat} {vs : List V} (d it : Addr) (r : Vals vs (es.map (·.key))) :
    Turn P w K tg (Itkd d es ep vs) [it] it (fun i h => h.IsKeyIter it d i es.length ep) := by
  have hl : vs.length = es.length := by rw [r.length, List.length_map]
  refine ⟨by simp, fun i h st b hb => ?_, fun i h h' st k => st.at fun oi e => k it (by simp) oi e, ?_, ?_, fun A i s Q E st h => ?_⟩
  · obtain rfl : b = it := List.mem_singleton.mp hb
    obtain ⟨oi, e, c, dd⟩ := st
    exact ⟨oi, e, fun v z => by rw [dd] at z; cases z⟩
  · intro X hP hw hK hc i pins s σ H E I hf st ⟨hd, hi⟩
    subst hP hw hK
    obtain ⟨f0, f1, f2, f3, f4, f5⟩ := hf it (by simp)
    obtain ⟨o, ho, hx, hdt⟩ := Inv.dct I hd
    obtain ⟨u, hu, ru⟩ := r.get (List.getElem?_eq_getElem hi)
    rw [List.getElem?_map, Option.map_eq_some_iff] at hu
    obtain ⟨en, hen, rfl⟩ := hu
    refine next_key_item (en := en) st ho hdt (by simp) (by simpa using hen) fun h' st' sb => ?_
    have I1 : Inv X pins σ H { s with heap := h' } := I.turned (t' := s.toks) (fun b ob hb e => (sb.2 b hb).trans e) f0 f1 f3 f4 f5
    obtain ⟨oi, e, c, dd⟩ := id st'
    exact ⟨en.key, rfl, go_of (s := { s with heap := h' }) e c dd (by decide) ⟨_, H, I1, ru, ⟨rfl, List.getElem?_eq_getElem hi⟩, st', fun b hb => (hf b hb).1⟩⟩
  · intro X hP hw hK hc i pins s σ H E I hf st ⟨hd, hi⟩
    subst hP hw hK
    obtain ⟨f0, f1, f2, f3, f4, f5⟩ := hf it (by simp)
    obtain ⟨o, ho, hx, hdt⟩ := Inv.dct I hd
    exact next_key_end (I.ok.hd hc) st ho hdt (by simp) (by omega) fun h' eb => ⟨rfl, I.turned (t' := s.toks) (fun b ob hb e => eb b ob hb e) f0 f1 f3 f4 f5⟩
  · refine wpAny_pyIter_slot st.typeIs PySem.F.slot_dict_keyiterator_iter (wpAny_call_entry PySem.F.slot_dict_keyiterator_iter st.typeIs PySem.F.entry_dict_keyiterator_iter ?_ (PySem.F.args_dict_keyiterator_iter_1 _))
    exact show wpAny _ _ (ret (.ref it)) _ _ s from wpAny_pure ⟨_, rfl, "dict_keyiterator", _, st.typeIs, PySem.F.slot_dict_keyiterator_next.lookup, h⟩
theorem jok_dk {mg : Str → Option Value} {w : WK} {g : Gh} {H : Hp} {d : Addr} {es : List DictEntry} {ep : Nat} {ks : List D} {vs : List V} (hF : g.F d) (h : H d = some (.ext (DictAt d (es, ep)))) (r : RepAll mg w g H ks vs) : JOk mg w g H (Itkd d es ep vs) ks := by
  intro g' H' z tr i
  have h' := (z.frz d hF).trans h
  have r' := r.mono z
  refine ⟨fun k hk => ?_, fun hl => ⟨h', by rw [← r.length]; omega⟩⟩
  obtain ⟨v, hv, rv⟩ := r'.get hk
  refine ⟨⟨h', (List.getElem?_eq_some_iff.mp hv).1⟩, fun x H2 ⟨e, y⟩ => ?_⟩
  subst e
  rw [hv] at y; cases y
  exact ⟨New.refl _, rv⟩
section
variable {X : Cx} {B : Hp} {g0 : Gh} {tg e a b c : Expr} {es : List Expr} {pos : Pos}
def iWkX (K : PySem.W.Frag) (tl : TE) : TI := fun σ H R => tl σ H fun x H1 => (∃ a xs isL, x = .ref a ∧ SqK isL H1 a xs ∧ R (Itk K isL a) H1) ∨
  ∃ d es ep vs, x = .ref d ∧ H1 d = some (.ext (DictAt d (es, ep))) ∧ (d == sysModules) = false ∧ Vals vs (es.map (·.key)) ∧ R (Itkd d es ep vs) H1
theorem pi_wk {te : TE} (he : PE X e te) : PI X tg e (iWkX X.K te) := by
  refine ⟨fun pins s σ H R I h => ?_⟩
  refine thn (he.run pins s σ H _ I h) fun v s1 ⟨x, H1, I1, r1, q1⟩ => ?_
  rcases q1 with ⟨a, xs, isL, ex, hq, q⟩ | ⟨d, es, ep, vs, ex, hd, hs, rv, q⟩
  · subst ex
    cases r1
    cases isL with
    | true =>
      obtain ⟨its, rv, p, hz⟩ := I1.list (.inl hq)
      exact wpAny_pyIter_list p.isList (pi_one (tk := s1.toks) I1 _ (turn_list a _) ⟨_, Heap.get?_push_size _ rfl, rfl, rfl⟩ q)
    | false =>
      obtain ⟨its, rv, p, hz⟩ := I1.tuple (SqT.at hq)
      exact wpAny_pyIter_tuple (show s1.heap.IsTuple a its.toArray from p) (pi_one (tk := s1.toks) I1 _ (turn_tuple a _) ⟨_, Heap.get?_push_size _ rfl, rfl, rfl⟩ q)
  · subst ex
    cases r1
    obtain ⟨o, ho, hx, hdt⟩ := Inv.dct I1 hd
    exact iter_keys hs ho hx hdt (pi_one (tk := s1.toks) I1 _ (turn_dk d _ rv) ⟨_, Heap.get?_push_size _ rfl, rfl, by simp⟩ q)
/-- what is walked: the items of a list or tuple, the keys of a dict -/
def wkD : D → (List D → Prop) → Prop
  | .tup ds, K => K ds
  | .lst ds, K => K ds
  | .dct ks _, K => K ks
  | _, _ => False
theorem wkD_mono {d : D} {K K' : List D → Prop} (i : ∀ ds, K ds → K' ds) (q : wkD d K) : wkD d K' := by
  unfold wkD at q ⊢
  split at q <;> first | exact i _ q | exact q
theorem wkD_of {d : D} {K : List D → Prop} (q : wkD d K) : ∃ ds, (d = .lst ds ∨ d = .tup ds ∨ ∃ vs, d = .dct ds vs) ∧ K ds := by
  unfold wkD at q
  split at q
  · exact ⟨_, .inr (.inl rfl), q⟩
  · exact ⟨_, .inl rfl, q⟩
  · exact ⟨_, .inr (.inr ⟨_, rfl⟩), q⟩
  · exact q.elim
def iW (W : WE) : WA := fun env S Q => W env S fun t env' S' => wkD t.d fun ds => Q ds env' S'
theorem vi_wk {W : WE} (h : VE X B g0 e W) : VI X B g0 tg e (iW W) := by
  refine VI.of (fun _ _ _ _ i q => h.mono _ _ _ _ (fun _ _ _ q => wkD_mono (fun _ => i _ _ _) q) q) (pi_wk h.pe) fun σ H env S g Q R q => ?_
  refine ⟨env, S, g, _, R, q, fun v H1 ⟨g1, t, env1, S1, st1, R1, rt, q1⟩ => ?_⟩
  obtain ⟨g2, st2, R2, rp⟩ := rt.hold R1
  obtain ⟨ds, hd, q1⟩ := wkD_of q1
  rcases hd with hd | hd | ⟨us, hd⟩
  · rw [hd] at rp
    cases rp with
    | @lst a vs ds h0 h1 h2 => exact .inl ⟨a, vs, true, rfl, h1, g2, _, env1, S1, st1.trans st2, R2, jok_lst h0 h1 h2, q1⟩
  · rw [hd] at rp
    cases rp with
    | @tup a vs ds h1 h2 => exact .inl ⟨a, vs, false, rfl, h1, g2, _, env1, S1, st1.trans st2, R2, jok_tup h1 h2, q1⟩
  · rw [hd] at rp
    cases rp with
    | @dct a ks ds es ep h0 h1 h2 h3 h4 =>
      obtain ⟨vs, r1, r2⟩ := h3.keysV
      exact .inr ⟨a, es, ep, vs, rfl, h1, h2, r2, g2, _, env1, S1, st1.trans st2, R2, jok_dk h0 h1 r1, q1⟩
/-! ### len -/
theorem len_rawD {d : Addr} {A : Around} {E : Value → Shared → Prop} {s : Shared} {es : Array DictEntry} {ep : Nat} {P : Program} {w : World} {Q : Value → Shared → Prop} (hd : (d == sysModules) = false) (hm : s.heap.DictRaw d es ep) (hf : (es.size : Int) < 2 ^ 63)
    (h : ∀ t t', Q (.int es.size t) { s with toks := t' }) : wpAny (model P w) A (call (.builtin "len") [.ref d]) Q E s := by
  refine Calls.call_function_entry PySem.kind_len PySem.plain_len PySem.entry_len (PySem.args_len1 _) ?_
  unfold Builtin.«len»
  refine wpAny_bind (m := oneArg "len" _) (wpAny_pure (wpAny_bind (m := callSpecial? (.ref d) (Str.ofString "__len__")) (wpAny_callSpecial?_slot (name := Str.ofString "__len__") hm.typeIs PySem.F.slot_dict_len (call_len_raw hd hm ?_))))
  refine wpAny_bind (wpAny_holding (wpAny_pure (wpAny_bind (wpAny_letGo ?_))))
  refine show wpAny _ _ (if ((es.size : Nat) : Int) < 0 then _ else _) _ _ _ from ?_
  rw [if_neg (by omega)]
  refine show wpAny _ _ (if ((es.size : Nat) : Int) ≥ 2 ^ 63 then _ else _) _ _ _ from ?_
  rw [if_neg (by omega)]
  exact wpAny_bind (wpAny_mkInt (wpAny_pure ⟨_, rfl, h _ _⟩))
def opLenX : ON
  | [.dct ks vs], K => ks.length ≤ 1000000 ∧ K (.val (.int (ks.length : Int)))
  | ds, K => opLen ds K
theorem RepEs.len {mg : Str → Option Value} {w : WK} {g : Gh} {H : Hp} {ks ds : List D} {es : List DictEntry} (h : RepEs mg w g H ks ds es) : es.length = ks.length := h.koks.2.2
theorem n_lenX : OpN X (.builtin "len") opLenX := by
  refine ⟨fun ds K K' i q => ?_, fun pins s σ H g ds vs us K I tr c r q => ?_⟩
  · unfold opLenX at q ⊢
    split at q
    · exact ⟨q.1, i _ q.2⟩
    · exact n_len.mono (X := X) _ _ _ i q
  · unfold opLenX at q
    split at q
    · obtain ⟨v, rfl, c1⟩ := c.one
      obtain ⟨a, es, ep, rfl, h1, h2, h3, h4⟩ := c1.dct
      obtain ⟨o, ho, hx, hdt⟩ := Inv.dct I h1
      rw [Vals.ref1 r]
      have hl := h3.len
      refine len_rawD h2 ⟨o, ho, hx, hdt⟩ (by simp only [List.size_toArray]; omega) fun t t' => ⟨.int (es.toArray.size : Nat), H, I.tok _, ⟨t, rfl⟩, ?_⟩
      rw [List.size_toArray, hl]
      exact rk_int q.2
    · exact n_len.run pins s σ H g _ _ us K I tr c r q
/-! ### list(d) -/
def opListX : ON
  | [.dct ks vs], K => ks.length ≤ 1000000 ∧ K (.own (.lst ks))
  | ds, K => opList ds K
theorem n_listX (hc : X.calm = true) : OpN X (.type "list") opListX := by
  refine ⟨fun ds K K' i q => ?_, fun pins s σ H g ds vs us K I tr c r q => ?_⟩
  · unfold opListX at q ⊢
    split at q
    · exact ⟨q.1, i _ q.2⟩
    · exact n_list.mono (X := X) _ _ _ i q
  · unfold opListX at q
    split at q
    · obtain ⟨v, rfl, c1⟩ := c.one
      obtain ⟨a, es, ep, rfl, h1, h2, h3, h4⟩ := c1.dct
      obtain ⟨o, ho, hx, hdt⟩ := Inv.dct I h1
      rw [Vals.ref1 r]
      have hl := h3.len
      obtain ⟨kv, r1, r2⟩ := h3.keysV
      have hz : es.length ≤ sizeLine := by rw [hl]; exact sz1000 q.1
      refine PySem.W.kdl_call (kdl_raw h2 hx hdt) (I.ok.hd hc) ho (by rw [List.size_toArray]; exact hz) fun h' tk acc c' hk hS hacc => ?_
      have hv : Vals kv acc.toList := by
        refine vals_of_at (by rw [r2.length, List.length_map]; simpa using hacc.1.symm) fun j x u hx hu => ?_
        obtain ⟨en, e1, e2⟩ := hacc.2 j u (by rw [← Array.getElem?_toList]; exact hu)
        obtain ⟨u', e3, e4⟩ := r2.get hx
        rw [List.getElem?_map, show es[j]? = some en by simpa using e1] at e3
        cases e3
        rw [e2]; exact e4
      have kl : kv.length ≤ sizeLine := by rw [r2.length, List.length_map]; exact hz
      exact ⟨.ref s.heap.objs.size, _, I.laid (o := .lst kv) hk (Nat.le_refl _) (show ObjOk X.prog X.w _ _ _ (.lst kv) from ⟨kl, acc.toList, c', hv, by rw [Array.toArray_toList]; exact hS⟩), rfl, rk_lst tr r1 (I.hok.fresh (Nat.le_refl _)) q.2⟩
    · exact n_list.run pins s σ H g _ _ us K I tr c r q
end
end VC

set_option Elab.async false
set_option linter.all false
set_option maxRecDepth 100000
set_option maxHeartbeats 4000000
/-! VY: sorted. -/
namespace VC
open PySem PySem.Spec PyProof.Rows L2
def srtLe (a b : D) : Bool := PySem.W.dataLe false D.pd a b
@[irreducible] def srtD (ds : List D) : List D := ds.mergeSort srtLe
structure SrtOk (ds : List D) : Prop where
  dat : D.allData ds = true
  al : PySem.W.AllAlike (ds.map D.pd)
  so : PySem.W.Sortable (ds.map D.pd) ∨ ((ds.map D.pd).length ≤ 1 ∧ ∀ d ∈ ds.map D.pd, d ≠ .none)
  dep : ∀ d ∈ ds, d.pd.depth ≤ 60
  len : ds.length ≤ 1000000
section
variable {X : Cx} {pins : List (Addr × Obj)} {s : Shared} {σ : L2.St} {H : Hp} {g : Gh}
theorem allData_mem : ∀ {ds : List D} {d : D}, D.allData ds = true → d ∈ ds → d.isData = true
  | x :: xs, d, h, hm => by
    simp only [D.allData, Bool.and_eq_true] at h
    rcases List.mem_cons.mp hm with rfl | hm
    · exact h.1
    · exact allData_mem h.2 hm
/-- the items: a datum, what it is, its value -/
theorem each_rep {mg : Str → Option Value} {w : WK} : ∀ {ds : List D} {vs : List V} {us : List Value}, RepAll mg w g H ds vs → Vals vs us → PySem.W.EachIs (fun u (p : D × V) => RelV p.2 u) us (ds.zip vs)
  | _, _, _, .nil, r => by cases r; exact .nil
  | _, _, _, .cons h t, r => by
    cases r with
    | cons r1 r2 => exact .cons r1 (each_rep t r2)
theorem zip_fst {α β : Type} : ∀ {as : List α} {bs : List β}, as.length = bs.length → (as.zip bs).map Prod.fst = as
  | [], [], _ => rfl
  | _ :: as, _ :: bs, h => by simp [zip_fst (as := as) (bs := bs) (by simpa using h)]
  | [], _ :: _, h => by simp at h
  | _ :: _, [], h => by simp at h
theorem repAll_zip {mg : Str → Option Value} {w : WK} : ∀ {ds : List D} {vs : List V}, RepAll mg w g H ds vs → ∀ p ∈ ds.zip vs, Rep mg w g H p.1 p.2
  | _, _, .nil, p, h => by simp at h
  | _, _, .cons h t, p, hp => by
    rcases List.mem_cons.mp hp with rfl | hp
    · exact h
    · exact repAll_zip t p hp
theorem repAll_of {mg : Str → Option Value} {w : WK} : ∀ {ps : List (D × V)}, (∀ p ∈ ps, Rep mg w g H p.1 p.2) → RepAll mg w g H (ps.map Prod.fst) (ps.map Prod.snd)
  | [], _ => .nil
  | p :: ps, h => .cons (h p (by simp)) (repAll_of fun q hq => h q (by simp [hq]))
theorem vals_each : ∀ {us : List Value} {ps : List (D × V)}, PySem.W.EachIs (fun u (p : D × V) => RelV p.2 u) us ps → Vals (ps.map Prod.snd) us
  | _, _, .nil => .nil
  | _, _, .cons h t => .cons h (vals_each t)
theorem srt_map (ds : List D) (vs : List V) (hl : ds.length = vs.length) : ((ds.zip vs).mergeSort (PySem.W.dataLe false fun p : D × V => p.1.pd)).map Prod.fst = srtD ds := by
  unfold srtD
  rw [List.map_mergeSort (r := PySem.W.dataLe false fun p : D × V => p.1.pd) (s := srtLe) (f := Prod.fst) (fun a _ b _ => rfl), zip_fst hl]
theorem srt_rep {mg : Str → Option Value} {w : WK} {ds : List D} {vs : List V} {out : List Value} (r : RepAll mg w g H ds vs) (eo : PySem.W.EachIs (fun u (p : D × V) => RelV p.2 u) out ((ds.zip vs).mergeSort (PySem.W.dataLe false fun p : D × V => p.1.pd))) :
    ∃ vs', RepAll mg w g H (srtD ds) vs' ∧ Vals vs' out ∧ vs'.length = vs.length := by
  refine ⟨_, ?_, vals_each eo, ?_⟩
  · rw [← srt_map ds vs r.length]
    exact repAll_of fun p hp => repAll_zip r p (List.mem_mergeSort.mp hp)
  · rw [List.length_map, List.length_mergeSort, List.length_zip, r.length, Nat.min_self]
theorem reads_rep (I : Inv X pins σ H s) {d : D} {v : V} {u : Value} (r : Rep X.mg X.wk g H d v) (hd : d.isData = true) (ru : RelV v u) : ∃ as, Reads s.heap u d.pd as := Dp.reads I _ v u (r.dp hd) ru
theorem each_reads (I : Inv X pins σ H s) : ∀ {ds : List D} {vs : List V} {us : List Value}, RepAll X.mg X.wk g H ds vs → D.allData ds = true → Vals vs us → PySem.W.EachIs (fun u (p : D × V) => ∃ as, Reads s.heap u p.1.pd as) us (ds.zip vs)
  | _, _, _, .nil, _, r => by cases r; exact .nil
  | _, _, _, .cons h t, e, r => by
    simp only [D.allData, Bool.and_eq_true] at e
    cases r with
    | cons r1 r2 => exact .cons (reads_rep I h e.1 r1) (each_reads I t e.2 r2)
open PySem.W in
theorem sorts_at {P : Program} {w : World} {A : Around} {s : Shared} {vs : List Value} {ds : List PyData} (e : EachIs (fun v d => ∃ as, Reads s.heap v d as) vs ds) (hal : AllAlike ds) (hk : Sortable ds ∨ (ds.length ≤ 1 ∧ ∀ d ∈ ds, d ≠ .none)) (hu : ∀ d, d ∈ ds → A.units + d.depth < cLine) :
    SortsAt P w A s (dataKind s.heap ds) vs := by
  rcases hk with hk | ⟨hk, hn⟩
  · exact SortsAt.data e hal hk hu
  · refine ⟨fun v hv => ?_, general', fun E x y a b Q ha hb hq => ?_, fun h2 => absurd h2 (by rw [e.length]; omega)⟩
    · obtain ⟨d, hd, as, r⟩ := e.left v hv
      exact ⟨_, dataKind_some hal hd r⟩
    · obtain ⟨d, as, hd, ra, rfl⟩ := dataKind_inv ha
      obtain ⟨d', as', hd', rb, rfl⟩ := dataKind_inv hb
      rw [show keyLt' general' x y = oneLt' false x y from rfl]
      exact oneLt_alike (f := false) (fun z => nomatch z) ra rb (hal d hd d' hd') (hn d hd) (Nat.lt_of_le_of_lt (Nat.add_le_add_left (Nat.min_le_left _ _) _) (hu d hd)) hq
open PySem.W in
theorem sorted_ds {P : Program} {w : World} {A : Around} {E : Value → Shared → Prop} {s : Shared} {β : Type} {vs : List Value} {bs : List β} {enc : β → PyData} {R : Value → β → Prop} {l : Addr} {Q : Value → Shared → Prop} (hl : s.heap.IsList l vs.toArray) (e : EachIs R vs bs) (er : EachIs (fun v b => ∃ as, Reads s.heap v (enc b) as) vs bs)
    (hal : AllAlike (bs.map enc)) (hk : Sortable (bs.map enc) ∨ ((bs.map enc).length ≤ 1 ∧ ∀ d ∈ bs.map enc, d ≠ .none)) (hL : bs.length ≤ sizeLine) (hu : ∀ b, b ∈ bs → A.units + 2 + (enc b).depth < cLine)
    (h : ∀ out, out.length = bs.length → EachIs R out (bs.mergeSort (dataLe false enc)) → Q (.ref (s.heap.objs.size + 1)) { s with heap := sortedAll s.heap vs (List.toArray out) }) : wpAny (model P w) A (call (.builtin "sorted") [.ref l]) Q E s := by
  have er' : EachIs (fun v b => ∃ as, Reads (sortingHeap (copyHeap s.heap vs) (s.heap.objs.size + 1) vs) v (enc b) as) vs bs := EachIs.mono (fun _ _ ⟨as, r⟩ => ⟨as, PyProof.Rows.Reads.keeps (fun _ _ => sorting_copy_old) r⟩) er
  refine sorted_vals hl (sorts_at (s := { s with heap := sortingHeap (copyHeap s.heap vs) (s.heap.objs.size + 1) vs }) (each_map (R := fun v d => ∃ as, Reads (sortingHeap (copyHeap s.heap vs) (s.heap.objs.size + 1) vs) v d as) enc er') hal hk (bound_map hu)) (by rw [e.length]; exact hL) ?_
  exact h _ (by rw [sortVals_length false rfl]; exact e.length) (sortVals_data false e er' hal)
open PySem.W in
theorem list_sort_ds {P : Program} {w : World} {A : Around} {E : Value → Shared → Prop} {s : Shared} {β : Type} {vs : List Value} {bs : List β} {enc : β → PyData} {R : Value → β → Prop} {a : Addr} {n : Nat} {Q : Value → Shared → Prop} (ho : s.heap.get? a = some (seqObj "list" vs.toArray n)) (e : EachIs R vs bs)
    (er : EachIs (fun v b => ∃ as, Reads s.heap v (enc b) as ∧ a ∉ as) vs bs) (hal : AllAlike (bs.map enc)) (hk : Sortable (bs.map enc) ∨ ((bs.map enc).length ≤ 1 ∧ ∀ d ∈ bs.map enc, d ≠ .none)) (hL : bs.length ≤ sizeLine) (hu : ∀ b, b ∈ bs → A.units + 1 + (enc b).depth < cLine)
    (h : ∀ out, out.length = bs.length → EachIs R out (bs.mergeSort (dataLe false enc)) → Q .none { s with heap := sortedHeap s.heap a vs (List.toArray out) }) : wpAny (model P w) A (call (.builtin "list.sort") [.ref a]) Q E s := by
  have er' : EachIs (fun v b => ∃ as, Reads (sortingHeap s.heap a vs) v (enc b) as) vs bs := each_keepBut (h' := sortingHeap s.heap a vs) (fun _ _ hb q => sortingHeap_old hb q) (fun o q => by rw [ho] at q; rw [← Option.some.inj q]) hal er
  refine wpAny_call_entry slot_list_sort ⟨_, ho, rfl⟩ entry_list_sort (list_sort_vals (κ := dataKind (sortingHeap s.heap a vs) (bs.map enc)) ho (sorts_at (s := { s with heap := sortingHeap s.heap a vs }) (each_map (R := fun v d => ∃ as, Reads (sortingHeap s.heap a vs) v d as) enc er') hal hk (bound_map hu)) (by rw [e.length]; exact hL) ⟨.none, rfl, ?_⟩) (args_list_sort _)
  exact h _ (by rw [sortVals_length false rfl]; exact e.length) (sortVals_data false e er' hal)
def opSorted : ON
  | [.lst ds], K => SrtOk ds ∧ K (.own (.lst (srtD ds)))
  | [.dct ks _], K => SrtOk ks ∧ K (.own (.lst (srtD ks)))
  | _, _ => False
theorem zip_enc {ds : List D} {vs : List V} (hl : ds.length = vs.length) : (ds.zip vs).map (fun p : D × V => p.1.pd) = ds.map D.pd := by
  have : (ds.zip vs).map (fun p : D × V => p.1.pd) = ((ds.zip vs).map Prod.fst).map D.pd := by rw [List.map_map]; rfl
  rw [this, zip_fst hl]
theorem bb_sorted : bootBuiltins "sorted" = some (.builtin "sorted") := by decide +kernel
theorem n_sorted (hc : X.calm = true) (hu : X.A.units + 65 < cLine) : OpN X (.builtin "sorted") opSorted := by
  refine ⟨fun ds K K' i q => ?_, fun pins s σ H g ds vs us K I tr c r q => ?_⟩
  · unfold opSorted at q ⊢
    split at q <;> first | exact ⟨q.1, i _ q.2⟩ | exact q
  · unfold opSorted at q
    split at q
    · rename_i ds
      obtain ⟨ok, q⟩ := q
      obtain ⟨v, rfl, c1⟩ := c.one
      obtain ⟨a, vs, rfl, h1, h2⟩ := c1.lst
      rw [Vals.ref1 r]
      obtain ⟨its, rv, p, hz⟩ := I.list (.inl h1)
      have hl := h2.length
      have hb : (ds.zip vs).length = ds.length := by rw [List.length_zip, ← hl, Nat.min_self]
      refine sorted_ds (enc := fun p : D × V => p.1.pd) (R := fun u p => RelV p.2 u) p.isList (each_rep h2 rv) (each_reads I h2 ok.dat rv) (by rw [zip_enc hl]; exact ok.al) (by rw [zip_enc hl]; exact ok.so) (by rw [hb]; exact sz1000 ok.len) (fun b hb => ?_) fun out ho eo => ?_
      · have := ok.dep b.1 (List.of_mem_zip hb).1
        show X.A.units + 2 + b.1.pd.depth < cLine
        omega
      · obtain ⟨vs', r1, r2, r3⟩ := srt_rep h2 eo
        obtain ⟨c', hc'⟩ := sortedAll_at s.heap its out.toArray
        refine ⟨.ref _, _, I.laid (a := s.heap.objs.size + 1) (o := .lst vs') (t' := s.toks) (fun b o e => sortedAll_old e) (Nat.le_succ _) (show ObjOk X.prog X.w _ _ _ (.lst vs') from ⟨by rw [r3, ← hl]; exact sz1000 ok.len, out, c', r2, hc'⟩), rfl, rk_lst tr r1 (I.hok.fresh (Nat.le_succ _)) q⟩
    · rename_i ks _
      obtain ⟨ok, q⟩ := q
      obtain ⟨v, rfl, c1⟩ := c.one
      obtain ⟨a, es, ep, rfl, h1, h2, h3, h4⟩ := c1.dct
      obtain ⟨o, ho, hx, hdt⟩ := Inv.dct I h1
      rw [Vals.ref1 r]
      have hl := h3.len
      obtain ⟨kv, r1, r2⟩ := h3.keysV
      have hz : es.length ≤ sizeLine := by rw [hl]; exact sz1000 ok.len
      refine Calls.call_function_entry kind_sorted plain_sorted entry_sorted (args_sorted1 _) ?_
      unfold Builtin.«sorted»
      refine wpAny_bind (m := checkCount "sorted" 1 1 _) (wpAny_pure (wpAny_bind (PySem.W.kdu_collect (A := X.A.in1) (kdl_raw h2 hx hdt) (I.ok.hd hc) ho (by rw [List.size_toArray]; exact hz) fun h' tk acc hk hacc => ?_)))
      have hv : Vals kv acc.toList := by
        refine vals_of_at (by rw [r2.length, List.length_map]; simpa using hacc.1.symm) fun j x u hx hu => ?_
        obtain ⟨en, e1, e2⟩ := hacc.2 j u (by rw [← Array.getElem?_toList]; exact hu)
        obtain ⟨u', e3, e4⟩ := r2.get hx
        rw [List.getElem?_map, show es[j]? = some en by simpa using e1] at e3
        cases e3
        rw [e2]; exact e4
      have hkl := r1.length
      have al : acc.toList.length = ks.length := by rw [← hv.length, hkl]
      have hb : (ks.zip kv).length = ks.length := by rw [List.length_zip, ← hkl, Nat.min_self]
      have I1 : Inv X pins σ H { s with heap := h', toks := tk } := I.kept hk
      refine wpAny_bind (wpAny_newList ?_ (by rw [al]; exact sz1000 ok.len))
      have er := each_reads I1 r1 ok.dat hv
      have hN : (h'.push { cls := .type "list", data := .seq acc.toList.toArray }).get? h'.objs.size = some (seqObj "list" acc.toList.toArray 0) := Heap.get?_push_size _ rfl
      have hg : wpAny (model X.prog X.w) X.A.in1 (call (.builtin "list.sort") [.ref h'.objs.size]) (fun _ s' => EP X pins σ (RK X g H K) (.ref h'.objs.size) s') X.xe { s with heap := h'.push { cls := .type "list", data := .seq acc.toList.toArray }, toks := tk } := by
        refine list_sort_ds (enc := fun p : D × V => p.1.pd) (R := fun u p => RelV p.2 u) hN (each_rep r1 hv) ?_ (by rw [zip_enc hkl]; exact ok.al) (by rw [zip_enc hkl]; exact ok.so) (by rw [hb]; exact sz1000 ok.len) (fun b hb => ?_) fun out ho eo => ?_
        · exact er.mono fun u b ⟨as, rd⟩ => ⟨as, Reads.keeps (fun _ _ e => Heap.get?_push_of_some _ e) rd, fun hm => by
            obtain ⟨oo, e⟩ := PyProof.On.reads_mem_get rd _ hm
            exact absurd (Heap.lt_size e) (Nat.lt_irrefl _)⟩
        · have := ok.dep b.1 (List.of_mem_zip hb).1
          show X.A.units + 1 + 1 + b.1.pd.depth < cLine
          omega
        · obtain ⟨vs', q1, q2, q3⟩ := srt_rep r1 eo
          obtain ⟨c', hc'⟩ := sortedHeap_at (out := out.toArray) hN
          refine ⟨.ref _, _, I1.laid (a := h'.objs.size) (o := .lst vs') (t' := tk) (fun b o e => ?_) (Nat.le_refl _) (show ObjOk X.prog X.w _ _ _ (.lst vs') from ⟨by rw [q3, ← hkl]; exact sz1000 ok.len, out, c', q2, hc'⟩), rfl, rk_lst tr q1 (I1.hok.fresh (Nat.le_refl _)) q⟩
          have lt := Heap.lt_size e
          rw [sortedHeap_old (Nat.ne_of_lt lt) (by rw [Heap.size_push]; exact Nat.lt_succ_of_lt lt)]
          exact Heap.get?_push_of_some _ e
      exact wpAny_bind (wpAny_holding (wpAny_mono hg (fun _ s' x => wpAny_pure ⟨_, rfl, x⟩) fun _ _ e => e))
    · exact q.elim
end
end VC

set_option Elab.async false
set_option linter.all false
set_option maxRecDepth 100000
set_option maxHeartbeats 4000000
/-! VZ: dict(pairs), list(d.items()). -/
namespace VC
open PySem PySem.Spec PyProof.Rows L2
/-- keys that a dict may have -/
structure KsOk (ks : List D) : Prop where
  kok : ∀ k ∈ ks, kok k 8 = true
  nd : ks.Nodup
  kd : (∀ k ∈ ks, k.isT = true) ∨ ∀ k ∈ ks, k.isL = true
  len : ks.length ≤ 1000000
theorem KsOk.nodup : ∀ {ks : List D}, (∀ k ∈ ks, VC.kok k 8 = true) → ks.Nodup → (ks.map D.key).Nodup
  | [], _, _ => List.nodup_nil
  | k :: ks, h, n => by
    rw [List.nodup_cons] at n
    rw [List.map_cons, List.nodup_cons]
    refine ⟨fun z => ?_, KsOk.nodup (fun q hq => h q (List.mem_cons_of_mem _ hq)) n.2⟩
    obtain ⟨q, hq, e⟩ := List.mem_map.mp z
    exact n.1 (key_inj _ _ _ _ (h k (List.mem_cons_self ..)) (h q (List.mem_cons_of_mem _ hq)) e.symm ▸ hq)
section
variable {X : Cx} {pins : List (Addr × Obj)} {s : Shared} {σ : L2.St} {H : Hp} {g : Gh}
/-- the pairs in the heap -/
def tsOf (us : List Value) (j : Nat) : Addr := match us[j]? with
  | some (.ref a) => a
  | _ => 0
theorem pair_at (I : Inv X pins σ H s) {k d : D} {v : V} {u : Value} (r : Rep X.mg X.wk g H (.tup [k, d]) v) (ru : RelV v u) :
    ∃ a kv dv uk ud, u = .ref a ∧ Rep X.mg X.wk g H k kv ∧ Rep X.mg X.wk g H d dv ∧ RelV kv uk ∧ RelV dv ud ∧ s.heap.IsTuple a #[uk, ud] := by
  cases r with
  | @tup a vs ds h1 h2 =>
    cases ru
    obtain ⟨its, rv, p, hz⟩ := I.tuple (SqT.at h1)
    cases h2 with
    | cons q1 h2 =>
      cases h2 with
      | cons q2 h2 =>
        cases h2
        cases rv with
        | cons r1 rv =>
          cases rv with
          | cons r2 rv =>
            cases rv
            exact ⟨a, _, _, _, _, rfl, q1, q2, r1, r2, p⟩
theorem pairs_T (I : Inv X pins σ H s) : ∀ {ks ds : List D} {vs : List V} {us : List Value}, ks.length = ds.length → RepAll X.mg X.wk g H (zipD ks ds) vs → Vals vs us → (∀ k ∈ ks, kok k 8 = true) → (∀ k ∈ ks, k.isT = true) →
    ∃ xs : List (NestedKey × Addr × Value), TT3 X.mg X.wk g H ks ds xs ∧ us.length = ks.length ∧ ∀ (j : Nat) x, xs[j]? = some x → ∃ T, us[j]? = some (.ref T) ∧ s.heap.IsTuple T #[.ref x.2.1, x.2.2]
  | [], [], _, _, _, r, ru, _, _ => by cases r; cases ru; exact ⟨[], .nil, rfl, fun j x h => by simp at h⟩
  | k :: ks, d :: ds, _, _, hl, r, ru, h1, h2 => by
    cases r with
    | cons r rs =>
      cases ru with
      | cons ru rus =>
        obtain ⟨xs, t, hl', hx⟩ := pairs_T I (by simpa using hl) rs rus (fun q hq => h1 q (List.mem_cons_of_mem _ hq)) fun q hq => h2 q (List.mem_cons_of_mem _ hq)
        obtain ⟨a, kv, dv, uk, ud, rfl, q1, q2, q3, q4, q5⟩ := pair_at I r ru
        obtain ⟨nk, ek, _⟩ := kok_key k 8 (h1 k (List.mem_cons_self ..))
        obtain ⟨b, rfl, _⟩ := Cont.isT (.inl q1) (h2 k (List.mem_cons_self ..))
        cases q3
        refine ⟨(nk, b, ud) :: xs, .cons (h1 k (List.mem_cons_self ..)) ek q1 q2 q4 t, by simp [hl'], fun j x hj => ?_⟩
        cases j with
        | zero => simp at hj; subst hj; exact ⟨a, by simp, q5⟩
        | succ j => exact hx j x (by simpa using hj)
  | [], _ :: _, _, _, h, _, _, _, _ => by simp at h
  | _ :: _, [], _, _, h, _, _, _, _ => by simp at h
theorem pairs_L (I : Inv X pins σ H s) : ∀ {ks ds : List D} {vs : List V} {us : List Value}, ks.length = ds.length → RepAll X.mg X.wk g H (zipD ks ds) vs → Vals vs us → (∀ k ∈ ks, k.isL = true) →
    ∃ xs : List (Key × Value), LL3 X.mg X.wk g H ks ds xs ∧ us.length = ks.length ∧ ∀ (j : Nat) x, xs[j]? = some x → ∃ T uk, us[j]? = some (.ref T) ∧ keyIs x.1 uk = true ∧ s.heap.IsTuple T #[uk, x.2]
  | [], [], _, _, _, r, ru, _ => by cases r; cases ru; exact ⟨[], .nil, rfl, fun j x h => by simp at h⟩
  | k :: ks, d :: ds, _, _, hl, r, ru, h2 => by
    cases r with
    | cons r rs =>
      cases ru with
      | cons ru rus =>
        obtain ⟨xs, t, hl', hx⟩ := pairs_L I (by simpa using hl) rs rus fun q hq => h2 q (List.mem_cons_of_mem _ hq)
        obtain ⟨a, kv, dv, uk, ud, rfl, q1, q2, q3, q4, q5⟩ := pair_at I r ru
        obtain ⟨kk, rfl⟩ := kD_of (h2 k (List.mem_cons_self ..))
        have ki : keyIs kk uk = true := keyIs_of (P := X.prog) (w := X.w) q1 q3
        refine ⟨(kk, ud) :: xs, .cons (x := (kk, ud)) q2 q4 t, by simp [hl'], fun j x hj => ?_⟩
        cases j with
        | zero => simp at hj; subst hj; exact ⟨a, uk, by simp, ki, q5⟩
        | succ j => exact hx j x (by simpa using hj)
  | [], _ :: _, _, _, h, _, _, _ => by simp at h
  | _ :: _, [], _, _, h, _, _, _ => by simp at h
def opDict : ON
  | [.lst ps], K => ∃ ks ds, ps = zipD ks ds ∧ ks.length = ds.length ∧ KsOk ks ∧ K (.own (.dct ks ds))
  | _, _ => False
theorem bb_dict : bootBuiltins "dict" = some (.type "dict") := by decide +kernel
theorem rk_dct {K : T → Prop} {ks ds : List D} {p : Addr} {es : List DictEntry} {ep : Nat} (tr : ∀ a, g.F a → ∃ o, H a = some o) (hs : (p == sysModules) = false) (r : RepEs X.mg X.wk g H ks ds es) (n : (ks.map D.key).Nodup) (hp : H p = none) (q : K (.own (.dct ks ds))) :
    RK X g H K (.ref p) (upd H p (.ext (DictAt p (es, ep)))) :=
  ⟨.own (.dct ks ds), New.upd hp, ⟨p, rfl, ⟨es, ep, upd_same, hs, r.mono (Fz.new (New.upd hp) tr), n⟩, hp⟩, q⟩
theorem n_dict (hc : X.calm = true) (hu : X.A.units + 65 < cLine) : OpN X (.type "dict") opDict := by
  refine ⟨fun ds K K' i q => ?_, fun pins s σ H g ds vs us K I tr c r q => ?_⟩
  · unfold opDict at q ⊢
    split at q
    · obtain ⟨ks, ds, h1, h2, h3, q⟩ := q
      exact ⟨ks, ds, h1, h2, h3, i _ q⟩
    · exact q
  · unfold opDict at q
    split at q
    · obtain ⟨ks, ds, rfl, hl, ok, q⟩ := q
      obtain ⟨v, rfl, c1⟩ := c.one
      obtain ⟨a, vs, rfl, h1, h2⟩ := c1.lst
      rw [Vals.ref1 r]
      obtain ⟨z, its, n, rv, hlen, e⟩ := Inv.lstR I h1
      have hb : (s.heap.objs.size == sysModules) = false := beq_eq_false_iff_ne.mpr (Ne.symm (Nat.ne_of_lt I.big))
      have nd := KsOk.nodup ok.kok ok.nd
      have fin : ∀ h' tk es' ep', (∀ b o, s.heap.get? b = some o → h'.get? b = some o) → DictAt s.heap.objs.size (es', ep') h' → RepEs X.mg X.wk g H ks ds es' → EP X pins σ (RK X g H K) (.ref s.heap.objs.size) { s with heap := h', toks := tk } := fun h' tk es' ep' hk pd re =>
        ⟨.ref s.heap.objs.size, _, I.laid (a := s.heap.objs.size) (o := .ext (DictAt s.heap.objs.size (es', ep'))) (t' := tk) hk (Nat.le_refl _) (dictAt_ok pd), rfl, rk_dct tr hb re nd (I.hok.fresh (Nat.le_refl _)) q⟩
      rcases ok.kd with hT | hL
      · obtain ⟨xs, t, ul, hx⟩ := pairs_T I hl h2 rv ok.kok hT
        have xl := t.len.1
        have P := PairArg.list (prog := X.prog) (w := X.w) a its.toArray (tsOf its) (xs.map fun x => (Value.ref x.2.1, x.2.2))
        rw [List.length_map] at P
        refine call_dict_pairsH (knd := nestedKind X.prog X.w) (ps := xs) P (I.ok.hd hc) (show X.A.units + 1 + 1 + 8 < cLine by omega) ⟨⟨_, n, e, rfl, rfl, rfl⟩, by rw [List.size_toArray, ul, List.length_map, xl], fun j k v hj => ?_⟩ ⟨rfl, fun i key v hi => ?_⟩ (fun h' hk x hx' => ?_) (by rw [xl]; exact sz1000 ok.len) fun h' tk dd hk => ?_
        · rw [List.getElem?_map, Option.map_eq_some_iff] at hj
          obtain ⟨x, hj, ex⟩ := hj
          cases ex
          obtain ⟨T, h3, h4⟩ := hx j x hj
          have : tsOf its j = T := by unfold tsOf; rw [h3]
          rw [this]
          exact ⟨by simpa using h3, .inl h4⟩
        · have hi : (xs.map fun x => (Value.ref x.2.1, x.2.2))[i]? = some (key, v) := hi
          rw [List.getElem?_map, Option.map_eq_some_iff] at hi
          obtain ⟨x, hj, ex⟩ := hi
          cases ex
          exact ⟨x.1, x.2.1, hj, rfl⟩
        · exact nestedKind_stays.stays (fun b o _ _ e _ => hk b o (Nat.ne_of_lt (Heap.lt_size e)) (fun q => nomatch q) e) (TT3.is (w := X.wk) I t x hx')
        · rw [storedAllH_nil_of_nodup _ (nodup_of t.keys nd)] at dd
          obtain ⟨o', es', ep', f1, f2, f3, f4, _⟩ := dd
          exact fin h' tk _ ep' (fun b o e => hk b o (fun q => nomatch q) e) ⟨o', f1, f2, by rw [f3, ← f4]⟩ (TT3.es (X := X) t)
      · obtain ⟨xs, t, ul, hx⟩ := pairs_L I hl h2 rv hL
        have xl := t.len.1
        have key : ∀ j : Nat, ∃ uk : Value, ∀ x, xs[j]? = some x → ∃ T, its[j]? = some (.ref T) ∧ keyIs x.1 uk = true ∧ s.heap.IsTuple T #[uk, x.2] := fun j => by
          cases hj : xs[j]? with
          | none => exact ⟨.none, fun x h => by cases h⟩
          | some x =>
            obtain ⟨T, uk, h3, h4, h5⟩ := hx j x hj
            exact ⟨uk, fun y h => by cases h; exact ⟨T, h3, h4, h5⟩⟩
        obtain ⟨uk, huk⟩ := Classical.axiomOfChoice key
        have P := PairArg.list (prog := X.prog) (w := X.w) a its.toArray (tsOf its) ((List.range xs.length).zipWith (fun j x => (uk j, x.2)) xs)
        have zl : ((List.range xs.length).zipWith (fun j x => (uk j, x.2)) xs).length = xs.length := by simp
        have zg : ∀ {j : Nat} {p : Value × Value}, ((List.range xs.length).zipWith (fun j x => (uk j, x.2)) xs)[j]? = some p → ∃ x, xs[j]? = some x ∧ p = (uk j, x.2) := fun {j p} h => by
          have hj : j < xs.length := by rw [← zl]; exact (List.getElem?_eq_some_iff.mp h).1
          refine ⟨xs[j], List.getElem?_eq_getElem hj, ?_⟩
          rw [List.getElem?_zipWith, List.getElem?_range hj, List.getElem?_eq_getElem hj] at h
          exact (Option.some.inj h).symm
        rw [zl] at P
        refine call_dict_pairs (knd := mixKind X.prog X.w) (kvs := xs) P (I.ok.hd hc) ⟨⟨_, n, e, rfl, rfl, rfl⟩, by rw [List.size_toArray, ul, zl, xl], fun j k v hj => ?_⟩ ⟨rfl, fun i key v hi => ?_⟩ (by rw [xl]; exact sz1000 ok.len) fun h' tk dd hk => ?_
        · obtain ⟨x, hx1, ex⟩ := zg hj
          cases ex
          obtain ⟨T, h3, _, h4⟩ := huk j x hx1
          have : tsOf its j = T := by unfold tsOf; rw [h3]
          rw [this]
          exact ⟨by simpa using h3, .inl h4⟩
        · obtain ⟨x, hx1, ex⟩ := zg hi
          cases ex
          obtain ⟨T, _, h3, _⟩ := huk i x hx1
          exact ⟨x.1, hx1, h3⟩
        · have nk : (xs.map (·.1)).Nodup := nodup_kv (by rw [← t.nod]; exact nd)
          rw [merged_nil_of_nodup _ nk] at dd
          obtain ⟨o', es', ep', f1, f2, f3, f4, f5, f6⟩ := dd
          exact fin h' tk es'.toList ep' (fun b o e => hk b o (fun q => nomatch q) e) ⟨o', f1, f2, by rw [f3]⟩ (LL3.es (P := X.prog) (w := X.wk) t f5 fun e he => f4 e (by simpa using he))
    · exact q.elim
end
end VC

set_option Elab.async false
set_option linter.all false
set_option maxRecDepth 100000
set_option maxHeartbeats 4000000
/-! XA: list(d.items()). -/
namespace VC
open PySem PySem.Spec PyProof.Rows L2
section
variable {P : Program} {w : World} {A : Around} {E : Value → Shared → Prop} {s : Shared} {r d : Addr} {es : Array DictEntry} {ep : Nat}
theorem list_view {Q : Value → Shared → Prop} (hh : A.handled = none) (hv : s.heap.IsItemsView r d) (hm : DT.Raw s.heap d es ep) (hn : es.size ≤ sizeLine)
    (hQ : ∀ h' tk acc c as, (∀ b o, s.heap.get? b = some o → h'.get? b = some o) → h'.get? s.heap.objs.size = some { cls := .type "list", dict := none, data := .seq acc c, slots := #[] } → as.length = es.size → DT.Made es s.heap.objs.size h' as → acc.toList = as.map Value.ref → Q (.ref s.heap.objs.size) { s with heap := h', toks := tk }) :
    wpAny (model P w) A (call (.type "list") [.ref r]) Q E s := by
  refine callType_codes (Q₁ := fun x s1 => x = .ref s.heap.objs.size ∧ s1 = { s with heap := s.heap.push { cls := .type "list", data := .seq #[] } }) PySem.F.called_list (PySem.F.typeCall_list_1 _) PySem.F.entry_list_init (PySem.code_list_new _ ⟨rfl, rfl⟩) ?_
  rintro x s1 ⟨rfl, rfl⟩
  have hS : (s.heap.push { cls := .type "list", data := .seq #[] }).get? s.heap.objs.size = some { cls := .type "list", data := .seq #[] } := Heap.get?_push_size _ rfl
  obtain ⟨ov, hov, hv2⟩ := hv
  have lr : r < s.heap.objs.size := Heap.lt_size hov
  have ld : d < s.heap.objs.size := hm.lt
  have oth : ∀ b o, b ≠ s.heap.objs.size → s.heap.get? b = some o → ((s.heap.push { cls := .type "list", data := .seq #[] }).update s.heap.objs.size (Obj.mapSeq (fun _ => (#[] : Array Value)))).get? b = some o :=
    fun b o hb e => (Heap.get?_update_other _ _ (Ne.symm hb)).trans (Heap.get?_push_of_some _ e)
  refine ⟨⟨_, hS, rfl⟩, PySem.F.args_list_init_2 _ _, show wpAny _ _ (do let old ← Builtin.List.listItems (.ref s.heap.objs.size); Builtin.List.listUpdate (.ref s.heap.objs.size) (fun _ => #[]); letGo old.toList.reverse; Builtin.List.listExtendWith (.ref s.heap.objs.size) (.ref r) .none) _ _ _ from wpAny_bind ?_⟩
  unfold Builtin.List.listItems
  refine wpAny_bind (wpAny_seqItems hS rfl (wpAny_pure (show wpAny _ _ (updateSeq s.heap.objs.size (fun _ => #[]) >>= fun _ => letGo (#[] : Array Value).toList.reverse >>= fun _ => Builtin.List.listExtendWith (.ref s.heap.objs.size) (.ref r) .none) _ _ _ from ?_)))
  refine wpAny_bind (wpAny_updateSeq hS rfl (wpAny_bind (wpAny_letGo ?_)))
  refine DT.extI (A := A.in1) (es := es) (ep := ep) (d := d) hh ⟨ov, oth r _ (Nat.ne_of_lt lr) hov, hv2⟩ (hm.at' fun o e => oth d o (Nat.ne_of_lt ld) e) s.heap.objs.size (Nat.ne_of_gt lr) (Nat.ne_of_lt ld) .none _ (Heap.get?_update_self (Obj.mapSeq (fun _ => (#[] : Array Value))) hS rfl) (fun h' tk acc c as hk hS' hl hG hacc => ?_) hn
  exact ⟨rfl, hQ h' tk acc c as (fun b o e => hk b o (Nat.ne_of_lt (Heap.lt_size e)) (oth b o (Nat.ne_of_lt (Heap.lt_size e)) e)) hS' hl (hG.low (Nat.le_of_lt (Heap.lt_size (Heap.get?_update_self (Obj.mapSeq (fun _ => (#[] : Array Value))) hS rfl)))) hacc⟩
end
section
variable {X : Cx} {B : Hp} {g0 : Gh} {o : Expr} {p apos cpos pos : Pos}
/-- the tuples made -/
theorem take_pairs {pins : List (Addr × Obj)} {σ : L2.St} {H0 : Hp} {s : Shared} {h' : Heap} {tk : Nat} (I0 : Inv X pins σ H0 s) : ∀ (as : List Addr) (L : List (List V)) (H1 : Hp), Inv X pins σ H1 { s with heap := h', toks := tk } → as.Nodup → as.length = L.length →
    (∀ a ∈ as, s.heap.objs.size ≤ a ∧ H1 a = none) → (∀ (j : Nat) a vs, as[j]? = some a → L[j]? = some vs → ∀ H2, ObjOk X.prog X.w H2 h' a (.tup vs)) →
    ∃ H2, Inv X pins σ H2 { s with heap := h', toks := tk } ∧ New H1 H2 ∧ ∀ (j : Nat) a vs, as[j]? = some a → L[j]? = some vs → H2 a = some (.tup vs)
  | [], [], H1, I1, _, _, _, _ => ⟨H1, I1, New.refl _, fun j a vs h => by simp at h⟩
  | a :: as, vs :: L, H1, I1, hn, hl, h, hok => by
    obtain ⟨hb, hnone⟩ := h a (List.mem_cons_self ..)
    have I2 : Inv X pins σ (upd H1 a (.tup vs)) { s with heap := h', toks := tk } := I1.take (h' := h') (t' := tk) (fun b ob _ e => e) (I0.fpOk hb hnone) (hok 0 a vs rfl rfl _)
    rw [List.nodup_cons] at hn
    obtain ⟨H2, I3, n, q⟩ := take_pairs I0 as L _ I2 hn.2 (by simpa using hl) (fun c hc => by
      obtain ⟨c1, c2⟩ := h c (List.mem_cons_of_mem _ hc)
      exact ⟨c1, by rw [upd_ne (fun z => hn.1 (by rw [← z]; exact hc))]; exact c2⟩) fun j b us h1 h2 => hok (j + 1) b us (by simpa using h1) (by simpa using h2)
    refine ⟨H2, I3, (New.upd hnone).trans n, fun j b us h1 h2 => ?_⟩
    cases j with
    | zero => simp at h1 h2; subst h1 h2; exact n _ _ upd_same
    | succ j => exact q j b us (by simpa using h1) (by simpa using h2)
  | [], _ :: _, _, _, _, h, _, _ => by simp at h
  | _ :: _, [], _, _, _, h, _, _ => by simp at h
def rItems (es : List DictEntry) (L : List (List V)) : Prop := es.length = L.length ∧ ∀ (j : Nat) e vs, es[j]? = some e → L[j]? = some vs → Vals vs [e.key, e.val]
def tItems (to : TE) : TE := fun σ H Q => to σ H fun x H1 => ∃ d es ep L, x = .ref d ∧ H1 d = some (.ext (DictAt d (es, ep))) ∧ (d == sysModules) = false ∧ es.length ≤ 1000000 ∧ rItems es L ∧
  ∀ (q : Addr) (as : List Addr) (H2 : Hp), H1 q = none → New (upd H1 q (.lst (as.map V.ref))) H2 → as.length = L.length → (∀ (j : Nat) a vs, as[j]? = some a → L[j]? = some vs → H2 a = some (.tup vs)) → Q (.ref q) H2
theorem pe_items {to : TE} (hc : X.calm = true) (hg : Gl X "list") (hm : X.mg "list" = none) (ho : PE X o to) (hbase : attributeBase o "items" X.env (eval o X.env) = eval o X.env := by rfl) (hline : (apos.endLine == cpos.line) = true := by rfl)
    (na : starEach [.Call (.Attribute o "items" apos) [] [] cpos] X.env = (false, eval (.Call (.Attribute o "items" apos) [] [] cpos) X.env) :: starEach [] X.env := by rfl) :
    PE X (.Call (.Name "list" p) [.Call (.Attribute o "items" apos) [] [] cpos] [] pos) (tItems to) := by
  refine ⟨fun pins s σ H Q I h => ?_⟩
  refine Call_ (ld_blt I hg hm boot_list (PyProof.Rows.callWith_type1 (args_cons ?_ na) na))
  refine wpAny_Call_method0_late hbase hline (thn (ho.run pins s σ H _ I h) fun v s1 ⟨x, H1, I1, r1, d, es, ep, L, ex, hd, hs, hz, hr, q⟩ => ?_)
  subst ex
  cases r1
  obtain ⟨od, hod, hx, hdt⟩ := Inv.dct I1 hd
  refine ⟨"dict", "dict.items", PySem.F.plainAttrs_dict, PySem.F.slot_dict_items, PySem.F.type_dict_items, ⟨od, hod, hx.1⟩, fun b e => by cases e; exact ⟨od, hod, hx.2.1⟩, Calls.callWith_builtin rfl (PySem.evalArgs_none (DT.callItems (es := es.toArray) (ep := ep) hs ⟨od, hod, hx, hdt⟩ (args_nil ?_)))⟩
  have I2 : Inv X pins σ H1 { s1 with heap := s1.heap.push { cls := .type "dict_items", data := .fields #[.ref d] } } := I1.kept (t' := s1.toks) fun b ob q => Heap.get?_push_of_some _ q
  refine list_view (es := es.toArray) (ep := ep) (d := d) (I2.ok.hd hc) ⟨_, Heap.get?_push_size _ rfl, rfl, rfl⟩ ⟨od, Heap.get?_push_of_some _ hod, hx, hdt⟩ (by rw [List.size_toArray]; exact sz1000 hz) fun h' tk acc c as hk hS hl hG hacc => ?_
  rw [List.size_toArray] at hl
  have nd : as.Nodup := List.Pairwise.imp (fun h => Nat.ne_of_lt h) hG.rise
  have vv : Vals (as.map V.ref) acc.toList := by rw [hacc]; exact vals_refs as
  have I3 := I2.laid (o := .lst (as.map V.ref)) (t' := tk) hk (Nat.le_refl _) (show ObjOk X.prog X.w _ _ _ (.lst (as.map V.ref)) from ⟨by rw [List.length_map, hl]; exact sz1000 hz, acc.toList, c, vv, by rw [Array.toArray_toList]; exact hS⟩)
  have hq : H1 (s1.heap.push { cls := .type "dict_items", data := .fields #[.ref d] }).objs.size = none := I2.hok.fresh (Nat.le_refl _)
  obtain ⟨H2, I4, n, g⟩ := take_pairs I2 as L _ I3 nd (hl.trans hr.1) (fun a ha => ⟨Nat.le_of_lt (hG.above a ha), by rw [upd_ne (Nat.ne_of_gt (hG.above a ha))]; exact I2.hok.fresh (Nat.le_of_lt (hG.above a ha))⟩) fun j a vs h1 h2 H2 => by
    obtain ⟨e, e1, e2⟩ := hG.pairs j a h1
    have e1 : es[j]? = some e := by simpa using e1
    have ev := hr.2 j e vs e1 h2
    exact ⟨by rw [ev.length]; exact show 2 ≤ sizeLine by decide, _, ev, ⟨_, e2, rfl, 0, rfl⟩⟩
  exact ⟨.ref _, H2, I4, rfl, q _ as H2 hq n (hl.trans hr.1) g⟩
def wItems (Wo : WO) : WE := fun env S Q => Wo env S fun d env1 S1 => match dr S1 d with
  | .dct ks vs => ks.length ≤ 1000000 ∧ Q (.own (.lst (zipD ks vs))) env1 S1
  | _ => False
theorem RepEs.items {mg : Str → Option Value} {w : WK} {g : Gh} {H : Hp} : ∀ {ks ds : List D} {es : List DictEntry}, RepEs mg w g H ks ds es → ∃ L : List (List V), rItems es L ∧ ∀ (g' : Gh) (H' : Hp) (as : List Addr), Fz g H g' H' → as.length = L.length → (∀ (j : Nat) a vs, as[j]? = some a → L[j]? = some vs → H' a = some (.tup vs)) → RepAll mg w g' H' (zipD ks ds) (as.map V.ref)
  | _, _, _, .nil => ⟨[], ⟨rfl, fun j e vs h => by simp at h⟩, fun g' H' as _ hl _ => by
      cases as with
      | nil => exact .nil
      | cons _ _ => simp at hl⟩
  | _, _, _, .cons (kv := kv) (dv := dv) h1 h2 h3 h4 h5 h6 h7 h8 => by
    obtain ⟨L, hr, k⟩ := RepEs.items h8
    refine ⟨[kv, dv] :: L, ⟨by simp [hr.1], fun j e vs e1 e2 => ?_⟩, fun g' H' as z hl ha => ?_⟩
    · cases j with
      | zero => simp at e1 e2; subst e1 e2; exact .cons h2 (.cons h4 .nil)
      | succ j => exact hr.2 j e vs (by simpa using e1) (by simpa using e2)
    · cases as with
      | nil => simp at hl
      | cons a as => exact .cons (.tup (ha 0 a _ rfl rfl) (.cons (h1.mono z) (.cons (h3.mono z) .nil))) (k g' H' as z (by simpa using hl) fun j b vs e1 e2 => ha (j + 1) b vs (by simpa using e1) (by simpa using e2))
theorem ve_items {Wo : WO} (hc : X.calm = true) (hg : Gl X "list") (hm : X.mg "list" = none) (ho : VO X B g0 o Wo) (hbase : attributeBase o "items" X.env (eval o X.env) = eval o X.env := by rfl) (hline : (apos.endLine == cpos.line) = true := by rfl)
    (na : starEach [.Call (.Attribute o "items" apos) [] [] cpos] X.env = (false, eval (.Call (.Attribute o "items" apos) [] [] cpos) X.env) :: starEach [] X.env := by rfl) :
    VE X B g0 (.Call (.Name "list" p) [.Call (.Attribute o "items" apos) [] [] cpos] [] pos) (wItems Wo) := by
  refine VE.of (fun _ _ _ _ i q => ho.mono _ _ _ _ (fun d _ _ q => ?_) q) (pe_items hc hg hm ho.pe hbase hline na) fun σ H env S g Q R q => ?_
  · split at q
    · exact ⟨q.1, i _ _ _ q.2⟩
    · exact q
  · refine ⟨env, S, g, _, R, q, fun v H1 ⟨g1, d, env1, S1, st1, R1, t1, q1⟩ => ?_⟩
    have cc := t1.cont R1.sto
    dsimp only at q1
    split at q1
    · rename_i ks vs hd
      rw [hd] at cc
      obtain ⟨a, es, ep, rfl, h1, h2, h3, h4⟩ := cc.dct
      obtain ⟨L, hr, k⟩ := h3.items
      refine ⟨a, es, ep, L, rfl, h1, h2, by rw [h3.len]; exact q1.1, hr, fun q as H2 hq n hl ha => ?_⟩
      have n2 : New H1 H2 := (New.upd hq).trans n
      exact ⟨g1, .own (.lst (zipD ks vs)), env1, S1, st1.trans (n2.stp R1.sto.tr), R1.new n2, R1.rt n2 ⟨q, rfl, ⟨_, n _ _ upd_same, k g1 H2 as (Fz.new n2 R1.sto.tr) hl ha⟩, hq⟩, q1.2⟩
    · exact q1.elim
end
end VC

set_option Elab.async false
set_option linter.all false
set_option maxRecDepth 100000
set_option maxHeartbeats 4000000
/-! XB: several names stored at once, some of them cells; name += int. -/
namespace VC
open PySem PySem.Spec PyProof.Rows L2
section
variable {X : Cx} {B : Hp} {g0 : Gh} {a b c e : Expr} {pos : Pos}
theorem RT.new {mg : Str → Option Value} {w : WK} {g : Gh} {H H' : Hp} {σ : L2.St} {env : VEnv} {t : T} {v : V} (r : RT mg w B g H σ env t v) (n : New H H') (tr : ∀ a, g.F a → ∃ o, H a = some o) : RT mg w B g H' σ env t v := by
  cases t with
  | val d => exact Rep.mono (Fz.new n tr) r
  | own m =>
    obtain ⟨a, h1, h2, h3⟩ := r
    obtain ⟨o, ho, _⟩ := h2.there
    exact ⟨a, h1, h2.mono (Fz.new n tr) ((n a o ho).trans ho.symm), h3⟩
def gN2 (X : Cx) (i j : Nat) : TG := gTup X.K 2 (gCons (gName i) (gCons (gName j) gNil))
def gN3 (X : Cx) (i j l : Nat) : TG := gTup X.K 3 (gCons (gName i) (gCons (gName j) (gCons (gName l) gNil)))
theorem ps_tupC2 {i j : Nat} {x y : Str} {ta : TA} {px py pt pt2 : Pos} {kt k2 : Nat} (hc : X.calm = true) (hN : X.N.Nodup) (hi : X.N[i]? = some x) (hj : X.N[j]? = some y) (lx : Loc X.env.scope x) (ly : Loc X.env.scope y) (fx : X.fn x = true ∨ X.env.scope.names.lookup x = some .local) (fy : X.fn y = true ∨ X.env.scope.names.lookup y = some .local)
    (ha : PA X [a, b] ta) (hw : swappedStores [.Tuple [.Name x px, .Name y py] kt pt] (.Tuple [a, b] k2 pt2) X.env = pure none)
    (hs : swapsWithSole [.Tuple [.Name x px, .Name y py] kt pt] (.Tuple [a, b] k2 pt2) pos.line X.env = pure false := by rfl) :
    PS X (.Assign [.Tuple [.Name x px, .Name y py] kt pt] (.Tuple [a, b] k2 pt2) pos) (tAsg (tTup ta) (gN2 X i j)) :=
  ps_asg (pos := pos) (pe_tup (x1 := k2) (pos := pt2) ha) (pg_tup (k := kt) (pos := pt) hc (pgs_cons (pg_name (pos := px) hN hi lx fx) (pgs_cons (pg_name (pos := py) hN hj ly fy) pgs_nil))) hs hw
theorem ps_tupC3 {i j l : Nat} {x y z : Str} {ta : TA} {px py pz pt pt2 : Pos} {kt k2 : Nat} (hc : X.calm = true) (hN : X.N.Nodup) (hi : X.N[i]? = some x) (hj : X.N[j]? = some y) (hl : X.N[l]? = some z) (lx : Loc X.env.scope x) (ly : Loc X.env.scope y) (lz : Loc X.env.scope z)
    (fx : X.fn x = true ∨ X.env.scope.names.lookup x = some .local) (fy : X.fn y = true ∨ X.env.scope.names.lookup y = some .local) (fz : X.fn z = true ∨ X.env.scope.names.lookup z = some .local)
    (ha : PA X [a, b, c] ta) (hw : swappedStores [.Tuple [.Name x px, .Name y py, .Name z pz] kt pt] (.Tuple [a, b, c] k2 pt2) X.env = pure none)
    (hs : swapsWithSole [.Tuple [.Name x px, .Name y py, .Name z pz] kt pt] (.Tuple [a, b, c] k2 pt2) pos.line X.env = pure false := by rfl) :
    PS X (.Assign [.Tuple [.Name x px, .Name y py, .Name z pz] kt pt] (.Tuple [a, b, c] k2 pt2) pos) (tAsg (tTup ta) (gN3 X i j l)) :=
  ps_asg (pos := pos) (pe_tup (x1 := k2) (pos := pt2) ha) (pg_tup (k := kt) (pos := pt) hc (pgs_cons (pg_name (pos := px) hN hi lx fx) (pgs_cons (pg_name (pos := py) hN hj ly fy) (pgs_cons (pg_name (pos := pz) hN hl lz fz) pgs_nil)))) hs hw
theorem vs_pr2C {i j : Nat} {x y : Str} {px py pt pt2 : Pos} {kt k2 : Nat} {W : WL} (h : VLs X B g0 [a, b] W) (hp : ∀ ta, PA X [a, b] ta → PS X (.Assign [.Tuple [.Name x px, .Name y py] kt pt] (.Tuple [a, b] k2 pt2) pos) (tAsg (tTup ta) (gN2 X i j))) :
    VS X B g0 (.Assign [.Tuple [.Name x px, .Name y py] kt pt] (.Tuple [a, b] k2 pt2) pos) (wPr2 i j W) := by
  refine VS.of (fun _ _ _ _ k q => h.mono _ _ _ _ (fun ds _ _ q => ?_) q) (hp _ h.pa) fun σ H env S g De R q => ?_
  · split at q <;> first | exact k.nx _ _ q | exact q.elim
  · refine ⟨env, S, g, _, R, q, fun vs H1 ⟨g1, ds, env1, S1, st1, R1, ra, q1⟩ => ?_⟩
    dsimp only at q1
    split at q1
    · cases ra with
      | @cons _ v1 _ _ r1 n1 ra =>
        cases ra with
        | @cons _ v2 _ _ r2 n2 ra =>
          cases ra
          refine ⟨show 2 ≤ sizeLine by decide, fun p hp => ⟨p, _, rfl, SqT.at upd_same, rfl, _, _, rfl, _, _, rfl, rfl, ?_⟩⟩
          have hn := New.upd (o := HO.tup [v1, v2]) hp
          have r1 := r1.new hn R1.sto.tr
          have r2 := r2.new hn R1.sto.tr
          have R2 := R1.new hn
          exact ⟨g1, _, S1, (st1.trans (hn.stp R1.sto.tr)).toFz, (R2.putOwn i r1).putOwn j (r2.put R2.len (fun m a e1 e2 m' e3 e4 => n1 m a e1 e2 0 m' (by simp [e3]) (by simp [e4])) r1.isref), q1⟩
    · exact q1.elim
theorem vs_pr3C {i j l : Nat} {x y z : Str} {px py pz pt pt2 : Pos} {kt k2 : Nat} {W : WL} (h : VLs X B g0 [a, b, c] W) (hp : ∀ ta, PA X [a, b, c] ta → PS X (.Assign [.Tuple [.Name x px, .Name y py, .Name z pz] kt pt] (.Tuple [a, b, c] k2 pt2) pos) (tAsg (tTup ta) (gN3 X i j l))) :
    VS X B g0 (.Assign [.Tuple [.Name x px, .Name y py, .Name z pz] kt pt] (.Tuple [a, b, c] k2 pt2) pos) (wPr3 i j l W) := by
  refine VS.of (fun _ _ _ _ k q => h.mono _ _ _ _ (fun ds _ _ q => ?_) q) (hp _ h.pa) fun σ H env S g De R q => ?_
  · split at q <;> first | exact k.nx _ _ q | exact q.elim
  · refine ⟨env, S, g, _, R, q, fun vs H1 ⟨g1, ds, env1, S1, st1, R1, ra, q1⟩ => ?_⟩
    dsimp only at q1
    split at q1
    · cases ra with
      | @cons _ v1 _ _ r1 n1 ra =>
        cases ra with
        | @cons _ v2 _ _ r2 n2 ra =>
          cases ra with
          | @cons _ v3 _ _ r3 n3 ra =>
            cases ra
            refine ⟨show 3 ≤ sizeLine by decide, fun p hp => ⟨p, _, rfl, SqT.at upd_same, rfl, _, _, rfl, _, _, rfl, _, _, rfl, rfl, ?_⟩⟩
            have hn := New.upd (o := HO.tup [v1, v2, v3]) hp
            have r1 := r1.new hn R1.sto.tr
            have r2 := r2.new hn R1.sto.tr
            have r3 := r3.new hn R1.sto.tr
            have R2 := R1.new hn
            refine ⟨g1, _, S1, (st1.trans (hn.stp R1.sto.tr)).toFz, ((R2.putOwn i r1).putOwn j (r2.put R2.len (fun m a e1 e2 m' e3 e4 => n1 m a e1 e2 0 m' (by simp [e3]) (by simp [e4])) r1.isref)).putOwn l ?_, q1⟩
            refine RT.put (by rw [List.length_set, List.length_set]; exact R2.len) (r3.put R2.len (fun m a e1 e2 m' e3 e4 => n1 m a e1 e2 1 m' (by simp [e3]) (by simp [e4])) r1.isref) (fun m a e1 e2 m' e3 e4 => n2 m a e1 e2 0 m' (by simp [e3]) (by simp [e4])) r2.isref
    · exact q1.elim
/-- name += e, name -= e: ints -/
def wAug (i : Nat) (f : Int → Int → Int) (We : WE) : WS := fun D env S => match slot env i with
  | some (.val (.int x)) => We env S fun t env1 S1 => match t with
    | .val (.int y) => D.nx (env1.set i (some (.val (.int (f x y))))) S1
    | _ => False
  | _ => False
theorem vs_aug {i : Nat} {x : Str} {op : Operator} {f : Int → Int → Int} {We : WE} {pos' : Pos} (he : VE X B g0 e We) (hp : ∀ te, PE X e te → PS X (.AugAssign (.Name x pos') op e pos) (tAug i te (ipI f))) :
    VS X B g0 (.AugAssign (.Name x pos') op e pos) (wAug i f We) := by
  refine VS.of (fun _ _ _ _ k q => ?_) (hp _ he.pe) fun σ H env S g De R q => ?_
  · unfold wAug at q ⊢
    split at q
    · refine he.mono _ _ _ _ (fun t _ _ q => ?_) q
      split at q
      · exact k.nx _ _ q
      · exact q
    · exact q
  · unfold wAug at q
    split at q
    · rename_i xx hs
      obtain ⟨v, h1, h2⟩ := R.val i _ (slot_get hs)
      cases h2
      refine ⟨_, h1, env, S, g, _, R, q, fun y H1 ⟨g1, t, env1, S1, st1, R1, rt, q1⟩ => ?_⟩
      dsimp only at q1
      split at q1
      · cases rt
        exact ⟨_, _, rfl, rfl, g1, _, S1, st1.toFz, R1.put i (.int _), q1⟩
      · exact q1.elim
    · exact q.elim
end
end VC

set_option Elab.async false
set_option linter.all false
set_option maxRecDepth 100000
set_option maxHeartbeats 4000000
/-! XC: a call that keeps nothing of its arguments: own objects stay own. -/
namespace VC
open PySem PySem.Spec PyProof.Rows L2
def M.flat : M → Prop
  | .lst ds => ∀ d ∈ ds, ∃ i, d = D.int i
  | .dct _ _ => False
def T.plain : T → Prop
  | .val (.bl _) => True
  | .val (.int _) => True
  | .val .non => True
  | _ => False
section
variable {mg : Str → Option Value} {w : WK} {g : Gh} {H : Hp}
/-- all that may be frozen is -/
def bigF (mg : Str → Option Value) (w : WK) (g : Gh) (H : Hp) : Gh := ⟨fun a => g.F a ∨ ((∃ m, RepM mg w g H m a) ∧ a ∉ g.ρ), g.ρ⟩
theorem fz_big : Fz g H (bigF mg w g H) H := ⟨fun _ _ h => h, fun _ _ => rfl, fun _ h => .inl h, ⟨[], by simp [bigF]⟩⟩
theorem sto_big {S : Sto} (R : StoOk mg w g H S) : StoOk mg w (bigF mg w g H) H S := by
  refine ⟨R.len, R.nd, fun k a m h1 h2 => (R.at_ k a m h1 h2).mono fz_big rfl, fun a ha h => ?_, fun a h => ?_⟩
  · rcases h with h | h
    · exact R.nF a ha h
    · exact h.2 ha
  · rcases h with h | ⟨⟨m, h⟩, _⟩
    · exact R.tr a h
    · obtain ⟨o, ho, _⟩ := h.there; exact ⟨o, ho⟩
theorem Top.big {d : D} {v : V} (h : Top mg w g H d v) : Rep mg w (bigF mg w g H) H d v := by
  rcases h with h | ⟨a, m, rfl, rfl, h, hn⟩
  · exact h.mono fz_big
  · have hF : (bigF mg w g H).F a := .inr ⟨⟨m, h⟩, hn⟩
    cases m with
    | lst ds => obtain ⟨vs, h1, h2⟩ := h; exact .lst hF (.inl h1) (RepAll.mono fz_big h2)
    | dct ks ds => obtain ⟨es, ep, h1, h2, h3, h4⟩ := h; exact .dct hF h1 h2 (RepEs.mono fz_big h3) h4
theorem TopAll.big : ∀ {ds : List D} {vs : List V}, TopAll mg w g H ds vs → RepAll mg w (bigF mg w g H) H ds vs
  | _, _, .nil => .nil
  | _, _, .cons h t => .cons h.big t.big
theorem ints_rep {g' : Gh} : ∀ {ds : List D} {vs : List V}, (∀ d ∈ ds, ∃ i, d = D.int i) → RepAll mg w g H ds vs → RepAll mg w g' H ds vs
  | _, _, _, .nil => .nil
  | _, _, h, .cons r t => by
    obtain ⟨i, rfl⟩ := h _ (List.mem_cons_self ..)
    cases r
    exact .cons (.int i) (ints_rep (fun d hd => h d (List.mem_cons_of_mem _ hd)) t)
theorem TopAll.length : ∀ {ds : List D} {vs : List V}, TopAll mg w g H ds vs → ds.length = vs.length
  | _, _, .nil => rfl
  | _, _, .cons _ t => by simp [t.length]
end
section
variable {X : Cx} {B : Hp} {g0 : Gh} {e : Expr} {es : List Expr} {pos : Pos}
/-- behind the call -/
theorem Rp.back {mg : Str → Option Value} {w : WK} {g1 g2 : Gh} {H1 H2 : Hp} {σ : L2.St} {env : VEnv} {S : Sto} (R : Rp mg w B g0 g1 H1 σ env S) (st : Stp (bigF mg w g1 H1) H1 g2 H2) (so : StoOk mg w g2 H2 S) (fl : ∀ m ∈ S, m.flat) : Stp g1 H1 g1 H2 ∧ Rp mg w B g0 g1 H2 σ env S := by
  have er : g2.ρ = g1.ρ := by
    obtain ⟨t, e⟩ := st.ρ
    have e : g2.ρ = g1.ρ ++ t := e
    have := so.len
    rw [e, List.length_append, R.sto.len] at this
    rw [e, List.length_eq_zero_iff.mp (show t.length = 0 by omega), List.append_nil]
  have z : Fz g1 H1 g1 H2 := ⟨st.tup, fun a h => st.frz a (.inl h), fun _ h => h, ⟨[], by simp⟩⟩
  have s1 : Stp g1 H1 g1 H2 := ⟨z, st.oth, fun _ h => .inl h⟩
  refine ⟨s1, ⟨⟨R.sto.len, R.sto.nd, fun k a m h1 h2 => ?_, R.sto.nF, fun a h => ?_⟩, R.len, fun i d q => ?_, fun i m q => ?_, R.inj, R.base.trans s1, R.fN, R.noTup⟩⟩
  · have r := so.at_ k a m (by rw [er]; exact h1) h2
    have f := fl m (List.mem_of_getElem? h2)
    cases m with
    | dct _ _ => exact f.elim
    | lst ds => obtain ⟨vs, r1, r2⟩ := r; exact ⟨vs, r1, ints_rep f r2⟩
  · obtain ⟨o, ho⟩ := R.sto.tr a h
    exact ⟨o, (z.frz a h).trans ho⟩
  · obtain ⟨v, h1, h2⟩ := R.val i d q
    exact ⟨v, h1, h2.mono z⟩
  · obtain ⟨a, h1, h2, h3, h4, h5⟩ := R.own i m q
    obtain ⟨o, ho, _⟩ := h2.there
    exact ⟨a, h1, h2.mono z ((st.oth a o ho h5).trans ho.symm), h3, h4, h5⟩
def wCallU (n : Nat) (sp : FSpec) (W : WA) : WE := fun env S Q => W env S fun ds env1 S1 => ds.length = n ∧ sp ds S1 (fun t S2 => (S2 = S1 ∧ (∀ m ∈ S1, m.flat) ∧ t.plain) ∧ Q t env1 S1) (fun _ _ => False)
theorem wCallU_mono {n : Nat} {sp : FSpec} {W : WA} (mf : MoF sp) (m : Mo W) : Mo (wCallU n sp W) := fun _ _ _ _ i q => m _ _ _ _ (fun _ _ _ q => if_mono (mf _ _ _ _ _ fun _ _ q => ⟨q.1, i _ _ _ q.2⟩) q) q
theorem callU_imp {n : Nat} {sp sp0 : FSpec} {dds : List D} {dvs : List V} (rd : ∀ g H, RepAll X.mg X.wk g H dds dvs) (is : ∀ ds S R E, sp ds S R E → sp0 (ds ++ dds) S R E) {W : WA} {E : XK} {σ : L2.St} {H : Hp} {env : VEnv} {S : Sto} {g : Gh} {Q : T → VEnv → Sto → Prop} (R : Rp X.mg X.wk B g0 g H σ env S) (q : wCallU n sp W env S Q) :
    tCall (SpOf X.mg X.wk (n + dds.length) sp0) dvs E (tU X B g0 W) σ H (VQ X B g0 g H σ Q) := by
  refine ⟨env, S, g, _, R, q, fun vs H1 ⟨g1, ds, env1, S1, st1, R1, ta, q1⟩ => ?_⟩
  obtain ⟨hl, q1⟩ := if_false q1
  have ra := ta.big
  refine ⟨by rw [List.length_append, ← ra.length, ← (rd g1 H1).length, hl], bigF X.mg X.wk g1 H1, S1, ds ++ dds, _, sto_big R1.sto, ra.append (rd _ H1), is _ _ _ _ q1, fun v H2 g2 t S2 st2 so hf rf q2 => ?_⟩
  obtain ⟨⟨es, fl, pl⟩, q2⟩ := q2
  subst es
  obtain ⟨s2, R2⟩ := R1.back st2 so fl
  refine ⟨g1, t, env1, _, st1.trans s2, R2, ?_, q2⟩
  cases t with
  | own m => exact pl.elim
  | val d =>
    have rf : Rep X.mg X.wk g2 H2 d v := rf
    cases d with
    | bl b => cases rf; exact Rep.bl b
    | int i => cases rf; exact Rep.int i
    | non => cases rf; exact Rep.non
    | _ => exact pl.elim
theorem ve_callU {x : Str} {n k : Nat} {sp : FSpec} {W : WA} {p : Pos} (F : FnV X.prog X.w X.K X.mg X.base x n k sp) (hr : Room k X.A) (hg : Gl X x) (ha : VU X B g0 (e :: es) W) (hdb : (x == ("__debug__" : Str)) = false := by decide)
    (he : starEach (e :: es) X.env = (false, eval e X.env) :: starEach es X.env := by rfl) (hpl : (backTo pos (starEach es X.env)).any (·.1) = false := by rfl) : VE X B g0 (.Call (.Name x p) (e :: es) [] pos) (wCallU n sp W) := by
  obtain ⟨f, fd, ps, dds, dvs, us, sp0, G, hm, hk, hb, hd, rd, is⟩ := F.ex
  exact VE.of (wCallU_mono F.mono ha.mono) (pe_call G hr hg hm hk hb hd passL ha.pa hdb he hpl) fun σ H env S g Q R q => callU_imp rd is R q
end
end VC

set_option Elab.async false
set_option linter.all false
set_option maxRecDepth 100000
set_option maxHeartbeats 4000000
/-! XD: enumerate(zip(xs, ys)). -/
namespace VC
open PySem PySem.Spec PyProof.Rows L2
abbrev ZipAt (h : Heap) (z TI TO : Addr) (f0 f1 : Value) : Prop := h.get? z = some { cls := .type "zip", dict := none, data := .fields #[f0, f1, .bool false, .ref TI, .ref TO], slots := #[] }
def FreeV (f0 : Value) : Prop := f0 = .none ∨ ∃ T : Nat, f0 = rawInt T
section
variable {P : Program} {w : World} {A : Around} {E : Value → Shared → Prop} {s : Shared} {z TI TO i1 i2 : Addr} {fp1 fp2 : List Addr} {n1 n2 i : Nat} {P1 P2 : Nat → Value → Prop} {St1 St2 : Nat → Heap → Prop} {a1 a2 f0 : Value} {f : Bool}
theorem alive_any {a : Addr} {Q : Option Obj → Shared → Prop} (h : Q (s.heap.get? a) s) : wpAny (model P w) A (loadIfAlive a) Q E s := fun _ _ _ => h
theorem own_free {Q : Bool → Shared → Prop} (hz : ZipAt s.heap z TI TO f0 (.bool f)) (hf : FreeV f0) (h1 : Q true s) (h2 : ∀ h', ZipAt h' z TI TO f0 (.bool true) → Heap.SameBut z s.heap h' → Q false { s with heap := h' }) :
    wpAny (model P w) A (Builtin.SmallTypes.ownedTupleIsFree (.ref z)) Q E s := by
  unfold Builtin.SmallTypes.ownedTupleIsFree
  rcases hf with rfl | ⟨T, rfl⟩
  · exact wpAny_bind (wpAny_field hz rfl (x := .none) rfl (wpAny_pure h1))
  · refine wpAny_bind (wpAny_field hz rfl (x := rawInt T) rfl (show wpAny _ _ (loadIfAlive ((T : Int).toNat) >>= _) _ _ _ from ?_))
    rw [Int.toNat_natCast]
    refine wpAny_bind (alive_any ?_)
    cases hT : s.heap.get? T with
    | none =>
      simp only [Option.isNone_none, if_true]
      exact wpAny_pure h1
    | some o =>
      simp only [Option.isNone_some, Bool.false_eq_true, if_false]
      refine wpAny_bind (wpAny_field hz rfl (x := .bool f) rfl ?_)
      cases f with
      | true => rw [if_neg (by decide)]; exact wpAny_pure (h2 s.heap hz (Heap.SameBut.refl _ _))
      | false => rw [if_pos (by decide)]; exact wpAny_bind (wpAny_setField_rec hz (by simp) fun h' hz' hs' => wpAny_pure (h2 h' hz' hs'))
/-- one turn of zip: a new pair, whatever became of the one before -/
theorem zip_nx {Q : Value → Shared → Prop} (S : ZipSep2 z TI TO i1 i2 fp1 fp2) (D1 : Draws P w A i1 fp1 n1 P1 St1) (D2 : Draws P w A i2 fp2 n2 P2 St2)
    (hz : ZipAt s.heap z TI TO f0 (.bool f)) (hf : FreeV f0) (hTI : IsTupOf2 s.heap TI (.ref i1) (.ref i2)) (hTO : IsTupOf2 s.heap TO a1 a2) (st1 : St1 i s.heap) (st2 : St2 i s.heap) (hlt1 : i < n1) (hlt2 : i < n2)
    (hQ : ∀ x1 x2 h' tk f0' f' b1 b2, P1 i x1 → P2 i x2 → ZipAt h' z TI TO f0' (.bool f') → FreeV f0' → IsTupOf2 h' TO b1 b2 → St1 (i + 1) h' → St2 (i + 1) h' → IsTupOf2 h' s.heap.objs.size x1 x2 → h'.objs.size = s.heap.objs.size + 1 →
      (∀ c o, c ≠ z → c ≠ TO → c ≠ i1 → c ≠ i2 → s.heap.get? c = some o → h'.get? c = some o) → Q (.ref s.heap.objs.size) { s with heap := h', toks := tk }) :
    wpAny (model P w) A (Builtin.«zip.__next__» ⟨[.ref z], []⟩) (fun fin s' => ∃ v, fin = .done (.ret v) ∧ Q v s') E s := by
  obtain ⟨hp, g, d, tk0, os⟩ := s
  refine show wpAny _ _ (field (.ref z) 2 >>= _) _ _ _ from wpAny_bind (wpAny_field hz rfl (x := .bool false) rfl (show wpAny _ _ (field (.ref z) 3 >>= _) _ _ _ from wpAny_bind (wpAny_field hz rfl (x := .ref TI) rfl (wpAny_bind (wpAny_seqItems hTI rfl (show wpAny _ _ (Builtin.SmallTypes.ownedTupleIsFree (.ref z) >>= _) _ _ _ from wpAny_bind (own_free hz hf ?_ fun g0 hz0 hs0 => ?_)))))))
  · simp only [if_true]
    refine wpAny_bind (wpAny_rule (wpAny_bind (wpAny_field hz rfl (x := .ref TO) rfl (wpAny_bind (wpAny_setField_rec hz (by simp) fun g0 hz0 hs0 => ?_)))))
    replace hz0 : ZipAt g0 z TI TO .ellipsis (.bool f) := hz0
    replace hs0 : Heap.SameBut z hp g0 := hs0
    refine wpAny_bind ?_
    simp only [List.zipIdx_cons, List.zipIdx_nil, List.forIn_cons, List.forIn_nil]
    refine wpAny_bind (wpAny_bind (wpAny_onRaise (show wpAny _ _ (Builtin.SmallTypes.nextOf (.ref i1) >>= _) _ _ ⟨g0, g, d, tk0, os⟩ from wpAny_bind (D1.item i _ _ _ hlt1 (D1.over st1 hs0 S.zf1) fun x1 p1 tk1 hx1 sn1 hp1 => wpAny_pure ?_))))
    replace hp1 : Heap.SameBut i1 g0 p1 := hp1
    have hU1 : IsTupOf2 p1 TO a1 a2 := hp1.extBut _ _ S.Ti1 (hs0.extBut _ _ S.TOz hTO)
    refine wpAny_bind (wpAny_seqItems (s := ⟨p1, g, d, tk1, os⟩) hU1 rfl (wpAny_bind (updateSeq_IsTupOf2 (s := ⟨p1, g, d, tk1, os⟩) hU1 fun g1 hT1 hs1 => ?_)))
    replace hT1 : IsTupOf2 g1 TO x1 a2 := hT1
    replace hs1 : Heap.SameBut TO p1 g1 := hs1
    refine wpAny_bind (wpAny_letGo (wpAny_pure ?_)); refine wpAny_bind (wpAny_bind (wpAny_onRaise ?_))
    refine show wpAny _ _ (Builtin.SmallTypes.nextOf (.ref i2) >>= _) _ _ ⟨g1, g, d, tk1, os⟩ from wpAny_bind (D2.item i _ _ _ hlt2 (D2.over (D2.over (D2.over st2 hs0 S.zf2) hp1 S.sep1_2) hs1 S.Tf2) fun x2 p2 tk2 hx2 sn2 hp2 => wpAny_pure ?_)
    replace hp2 : Heap.SameBut i2 g1 p2 := hp2
    have hU2 : IsTupOf2 p2 TO x1 a2 := hp2.extBut _ _ S.Ti2 hT1
    refine wpAny_bind (wpAny_seqItems (s := ⟨p2, g, d, tk2, os⟩) hU2 rfl (wpAny_bind (updateSeq_IsTupOf2 (s := ⟨p2, g, d, tk2, os⟩) hU2 fun g2 hT2 hs2 => ?_)))
    replace hT2 : IsTupOf2 g2 TO x1 x2 := hT2
    replace hs2 : Heap.SameBut TO p2 g2 := hs2
    refine wpAny_bind (wpAny_letGo (wpAny_pure (wpAny_pure ?_))); refine wpAny_bind (wpAny_seqItems (s := ⟨g2, g, d, tk2, os⟩) hT2 rfl (wpAny_bind (wpAny_newTuple ?_)))
    have hsz : g2.objs.size = hp.objs.size := by rw [hs2.1, hp2.1, hs1.1, hp1.1, hs0.1]
    have hzz : ZipAt g2 z TI TO .ellipsis (.bool f) := (hs2.extBut _ _ S.TOz.symm (hp2.extBut _ _ S.zi2 (hs1.extBut _ _ S.TOz.symm (hp1.extBut _ _ S.zi1 hz0))))
    have hkk : ∀ c o, c ≠ z → c ≠ TO → c ≠ i1 → c ≠ i2 → hp.get? c = some o → g2.get? c = some o := fun c o cz cT c1 c2 e => hs2.extBut _ _ cT (hp2.extBut _ _ c2 (hs1.extBut _ _ cT (hp1.extBut _ _ c1 (hs0.extBut _ _ cz e))))
    have hj1 : St1 (i + 1) g2 := D1.over (D1.over (D1.over sn1 hs1 S.Tf1) hp2 S.sep2_1) hs2 S.Tf1
    have hj2 : St2 (i + 1) g2 := D2.over sn2 hs2 S.Tf2
    have hzlt : z < g2.objs.size := Heap.lt_size hzz
    refine show wpAny _ _ (Builtin.SmallTypes.ownedTupleHandOut (.ref z) (.ref g2.objs.size) >>= _) _ _ ⟨g2.push { cls := .type "tuple", data := .seq #[x1, x2] }, g, d, tk2, os⟩ from wpAny_bind ?_
    unfold Builtin.SmallTypes.ownedTupleHandOut
    have hz6 : ZipAt (g2.push { cls := .type "tuple", data := .seq #[x1, x2] }) z TI TO .ellipsis (.bool f) := Heap.get?_push_of_some _ hzz
    refine wpAny_bind (wpAny_setField_rec hz6 (by simp) fun h7 hz7 hs7 => ?_)
    replace hz7 : ZipAt h7 z TI TO (rawInt g2.objs.size) (.bool f) := hz7
    refine wpAny_setField_rec hz7 (by simp) fun h8 hz8 hs8 => ?_
    replace hz8 : ZipAt h8 z TI TO (rawInt g2.objs.size) (.bool false) := hz8
    replace hs7 : Heap.SameBut z (g2.push { cls := .type "tuple", data := .seq #[x1, x2] }) h7 := hs7
    replace hs8 : Heap.SameBut z h7 h8 := hs8
    have up : ∀ c o, c ≠ z → g2.get? c = some o → h8.get? c = some o := fun c o c1 e => hs8.extBut _ _ c1 (hs7.extBut _ _ c1 (Heap.get?_push_of_some _ e))
    have hT8 : IsTupOf2 h8 g2.objs.size x1 x2 := hs8.extBut _ _ (Nat.ne_of_gt hzlt) (hs7.extBut _ _ (Nat.ne_of_gt hzlt) (Heap.get?_push_size _ rfl))
    have hq8 : h8.objs.size = g2.objs.size + 1 := by rw [hs8.1, hs7.1, Heap.size_push]
    refine wpAny_pure ⟨_, rfl, show Q (.ref g2.objs.size) ⟨h8, g, d, tk2, os⟩ from ?_⟩
    rw [hsz] at hT8 hq8 ⊢
    exact hQ x1 x2 h8 tk2 _ _ _ _ hx1 hx2 hz8 (.inr ⟨_, rfl⟩) (up _ _ S.TOz hT2) (D1.frame _ _ _ hj1 fun b hb o e => up b o (fun q => S.zf1 (q ▸ hb)) e) (D2.frame _ _ _ hj2 fun b hb o e => up b o (fun q => S.zf2 (q ▸ hb)) e) hT8 hq8 fun c o cz cT c1 c2 e => up c o cz (hkk c o cz cT c1 c2 e)
  · replace hs0 : Heap.SameBut z hp g0 := hs0
    simp only [Bool.false_eq_true, if_false]
    refine wpAny_bind ?_
    rw [← Array.forIn_toList]
    simp only [List.forIn_cons, List.forIn_nil]
    refine wpAny_bind (wpAny_bind (wpAny_holding (show wpAny _ _ (Builtin.SmallTypes.nextOf (.ref i1) >>= _) _ _ ⟨g0, g, d, tk0, os⟩ from wpAny_bind (D1.item i _ _ _ hlt1 (D1.over st1 hs0 S.zf1) fun x1 p1 tk1 hx1 sn1 hp1 => wpAny_pure ?_))))
    refine wpAny_pure ?_
    replace hp1 : Heap.SameBut i1 g0 p1 := hp1
    refine wpAny_bind (wpAny_bind (wpAny_holding (show wpAny _ _ (Builtin.SmallTypes.nextOf (.ref i2) >>= _) _ _ ⟨p1, g, d, tk1, os⟩ from wpAny_bind (D2.item i _ _ _ hlt2 (D2.over (D2.over st2 hs0 S.zf2) hp1 S.sep1_2) fun x2 p2 tk2 hx2 sn2 hp2 => wpAny_pure ?_))))
    refine wpAny_pure (wpAny_pure ?_)
    replace hp2 : Heap.SameBut i2 p1 p2 := hp2
    refine show wpAny _ _ (newTuple [x1, x2] >>= _) _ _ ⟨p2, g, d, tk2, os⟩ from wpAny_bind (wpAny_newTuple ?_)
    have hsz : p2.objs.size = hp.objs.size := by rw [hp2.1, hp1.1, hs0.1]
    have hz3 : ZipAt p2 z TI TO f0 (.bool true) := hp2.extBut _ _ S.zi2 (hp1.extBut _ _ S.zi1 hz0)
    have hT3 : IsTupOf2 p2 TO a1 a2 := hp2.extBut _ _ S.Ti2 (hp1.extBut _ _ S.Ti1 (hs0.extBut _ _ S.TOz hTO))
    have hk : ∀ c o, c ≠ z → c ≠ i1 → c ≠ i2 → hp.get? c = some o → p2.get? c = some o := fun c o c1 c2 c3 e => hp2.extBut _ _ c3 (hp1.extBut _ _ c2 (hs0.extBut _ _ c1 e))
    have hj1 : St1 (i + 1) p2 := D1.over sn1 hp2 S.sep2_1
    refine wpAny_pure ⟨_, rfl, show Q (.ref p2.objs.size) _ from ?_⟩
    have hpp : IsTupOf2 (p2.push { cls := .type "tuple", data := .seq #[x1, x2] }) p2.objs.size x1 x2 := Heap.get?_push_size _ rfl
    have hz4 : (p2.push { cls := .type "tuple", data := .seq #[x1, x2] }).objs.size = p2.objs.size + 1 := Heap.size_push ..
    rw [hsz] at hpp hz4 ⊢
    exact hQ x1 x2 _ tk2 _ _ _ _ hx1 hx2 (Heap.get?_push_of_some _ hz3) hf (Heap.get?_push_of_some _ hT3) (D1.frame _ _ _ hj1 fun b hb o e => Heap.get?_push_of_some _ e) (D2.frame _ _ _ sn2 fun b hb o e => Heap.get?_push_of_some _ e) hpp hz4 fun c o c1 _ c2 c3 e => Heap.get?_push_of_some _ (hk c o c1 c2 c3 e)
/-- zip has ended -/
theorem zip_fin {Q : PySem.Fin → Shared → Prop} (S : ZipSep2 z TI TO i1 i2 fp1 fp2) (D1 : Draws P w A i1 fp1 n1 P1 St1) (D2 : Draws P w A i2 fp2 n2 P2 St2)
    (hz : ZipAt s.heap z TI TO f0 (.bool f)) (hf : FreeV f0) (hTI : IsTupOf2 s.heap TI (.ref i1) (.ref i2)) (hTO : IsTupOf2 s.heap TO a1 a2) (st1 : St1 i s.heap) (st2 : St2 i s.heap) (hle1 : i ≤ n1) (hle2 : i ≤ n2) (hend : i = n1 ∨ i = n2)
    (hE : ∀ h' tk e, (∀ c o, c ≠ z → c ≠ TO → c ≠ i1 → c ≠ i2 → s.heap.get? c = some o → h'.get? c = some o) → (∃ o, h'.get? e = some o ∧ o.cls = .type "StopIteration") → E (.ref e) { s with heap := h', toks := tk }) :
    wpAny (model P w) A (Builtin.«zip.__next__» ⟨[.ref z], []⟩) Q E s := by
  obtain ⟨hp, g, d, tk0, os⟩ := s
  refine show wpAny _ _ (field (.ref z) 2 >>= _) _ _ _ from wpAny_bind (wpAny_field hz rfl (x := .bool false) rfl (show wpAny _ _ (field (.ref z) 3 >>= _) _ _ _ from wpAny_bind (wpAny_field hz rfl (x := .ref TI) rfl (wpAny_bind (wpAny_seqItems hTI rfl (show wpAny _ _ (Builtin.SmallTypes.ownedTupleIsFree (.ref z) >>= _) _ _ _ from wpAny_bind (own_free hz hf ?_ fun g0 hz0 hs0 => ?_)))))))
  · simp only [if_true]
    refine wpAny_bind (wpAny_rule (wpAny_bind (wpAny_field hz rfl (x := .ref TO) rfl (wpAny_bind (wpAny_setField_rec hz (by simp) fun g0 hz0 hs0 => ?_)))))
    replace hz0 : ZipAt g0 z TI TO .ellipsis (.bool f) := hz0
    replace hs0 : Heap.SameBut z hp g0 := hs0
    refine wpAny_bind ?_
    simp only [List.zipIdx_cons, List.zipIdx_nil, List.forIn_cons, List.forIn_nil]
    refine wpAny_bind (wpAny_bind (wpAny_onRaise ?_)); refine show wpAny _ _ (Builtin.SmallTypes.nextOf (.ref i1) >>= _) _ _ ⟨g0, g, d, tk0, os⟩ from ?_
    by_cases hlt1 : i < n1
    · refine wpAny_bind (D1.item i _ _ _ hlt1 (D1.over st1 hs0 S.zf1) fun x1 p1 tk1 hx1 sn1 hp1 => wpAny_pure ?_)
      replace hp1 : Heap.SameBut i1 g0 p1 := hp1
      have hU1 : IsTupOf2 p1 TO a1 a2 := hp1.extBut _ _ S.Ti1 (hs0.extBut _ _ S.TOz hTO)
      refine wpAny_bind (wpAny_seqItems (s := ⟨p1, g, d, tk1, os⟩) hU1 rfl (wpAny_bind (updateSeq_IsTupOf2 (s := ⟨p1, g, d, tk1, os⟩) hU1 fun g1 hT1 hs1 => ?_)))
      replace hs1 : Heap.SameBut TO p1 g1 := hs1
      have hi2 : i = n2 := by omega
      refine wpAny_bind (wpAny_letGo (wpAny_pure ?_)); refine wpAny_bind (wpAny_bind (wpAny_onRaise ?_))
      refine show wpAny _ _ (Builtin.SmallTypes.nextOf (.ref i2) >>= _) _ _ ⟨g1, g, d, tk1, os⟩ from wpAny_bind (D2.done ⟨g1, g, d, tk1, os⟩ _ _ (by rw [← hi2]; exact D2.over (D2.over (D2.over st2 hs0 S.zf2) hp1 S.sep1_2) hs1 S.Tf2) fun q e hq he => ?_)
      replace hq : Heap.ExtBut i2 g1 q := hq
      obtain ⟨oe, hoe, hce⟩ := he
      replace hoe : q.get? e = some oe := hoe
      have hzq : ZipAt q z TI TO .ellipsis (.bool f) := hq _ _ S.zi2 (hs1.extBut _ _ S.TOz.symm (hp1.extBut _ _ S.zi1 hz0))
      have hez : e ≠ z := fun x => by subst x; rw [hzq] at hoe; cases hoe; simp at hce
      refine wpAny_setField_rec (s := ⟨q, g, d, tk1, os⟩) hzq (by simp) fun q' _ hq' => ?_
      replace hq' : Heap.SameBut z q q' := hq'
      exact hE q' tk1 e (fun c o cz cT c1 c2 x => hq'.extBut _ _ cz (hq _ _ c2 (hs1.extBut _ _ cT (hp1.extBut _ _ c1 (hs0.extBut _ _ cz x))))) ⟨oe, hq'.extBut _ _ hez hoe, hce⟩
    · have hi1 : i = n1 := by omega
      refine wpAny_bind (D1.done ⟨g0, g, d, tk0, os⟩ _ _ (by rw [← hi1]; exact D1.over st1 hs0 S.zf1) fun q e hq he => ?_)
      replace hq : Heap.ExtBut i1 g0 q := hq
      obtain ⟨oe, hoe, hce⟩ := he
      replace hoe : q.get? e = some oe := hoe
      have hzq : ZipAt q z TI TO .ellipsis (.bool f) := hq _ _ S.zi1 hz0
      have hez : e ≠ z := fun x => by subst x; rw [hzq] at hoe; cases hoe; simp at hce
      refine wpAny_setField_rec (s := ⟨q, g, d, tk0, os⟩) hzq (by simp) fun q' _ hq' => ?_
      replace hq' : Heap.SameBut z q q' := hq'
      exact hE q' tk0 e (fun c o cz cT c1 c2 x => hq'.extBut _ _ cz (hq _ _ c1 (hs0.extBut _ _ cz x))) ⟨oe, hq'.extBut _ _ hez hoe, hce⟩
  · replace hs0 : Heap.SameBut z hp g0 := hs0
    simp only [Bool.false_eq_true, if_false]
    refine wpAny_bind ?_
    rw [← Array.forIn_toList]
    simp only [List.forIn_cons, List.forIn_nil]
    refine wpAny_bind (wpAny_bind (wpAny_holding ?_)); refine show wpAny _ _ (Builtin.SmallTypes.nextOf (.ref i1) >>= _) _ _ ⟨g0, g, d, tk0, os⟩ from ?_
    by_cases hlt1 : i < n1
    · have hi2 : i = n2 := by omega
      refine wpAny_bind (D1.item i _ _ _ hlt1 (D1.over st1 hs0 S.zf1) fun x1 p1 tk1 hx1 sn1 hp1 => wpAny_pure ?_)
      replace hp1 : Heap.SameBut i1 g0 p1 := hp1
      refine wpAny_pure ?_
      refine wpAny_bind (wpAny_bind (wpAny_holding (show wpAny _ _ (Builtin.SmallTypes.nextOf (.ref i2) >>= _) _ _ ⟨p1, g, d, tk1, os⟩ from wpAny_bind (D2.done ⟨p1, g, d, tk1, os⟩ _ _ (by rw [← hi2]; exact D2.over (D2.over st2 hs0 S.zf2) hp1 S.sep1_2) fun q e hq he => ?_))))
      replace hq : Heap.ExtBut i2 p1 q := hq
      exact hE q tk1 e (fun c o cz _ c1 c2 x => hq _ _ c2 (hp1.extBut _ _ c1 (hs0.extBut _ _ cz x))) he
    · have hi1 : i = n1 := by omega
      refine wpAny_bind (D1.done ⟨g0, g, d, tk0, os⟩ _ _ (by rw [← hi1]; exact D1.over st1 hs0 S.zf1) fun q e hq he => ?_)
      replace hq : Heap.ExtBut i1 g0 q := hq
      exact hE q tk0 e (fun c o cz _ c1 c2 x => hq _ _ c1 (hs0.extBut _ _ cz x)) he
theorem enz_body {e : Addr} {old : Value} {Q : Value → Shared → Prop} (S : ZipSep2 z TI TO i1 i2 fp1 fp2) (D1 : Draws P w A.in1 i1 fp1 n1 P1 St1) (D2 : Draws P w A.in1 i2 fp2 n2 P2 St2)
    (he : IsEnum s.heap e z i old) (hz : ZipAt s.heap z TI TO f0 (.bool f)) (hf : FreeV f0) (hTI : IsTupOf2 s.heap TI (.ref i1) (.ref i2)) (hTO : IsTupOf2 s.heap TO a1 a2) (st1 : St1 i s.heap) (st2 : St2 i s.heap) (hlt1 : i < n1) (hlt2 : i < n2)
    (ez : e ≠ z) (eT : e ≠ TO) (eI : e ≠ TI) (e1 : e ∉ fp1) (e2 : e ∉ fp2)
    (hQ : ∀ x1 x2 h' tk t f0' f' b1 b2, P1 i x1 → P2 i x2 → IsEnumOut h' e z ((i : Int) + 1) (.ref s.heap.objs.size) (s.heap.objs.size + 1) → ZipAt h' z TI TO f0' (.bool f') → FreeV f0' → IsTupOf2 h' TO b1 b2 → St1 (i + 1) h' → St2 (i + 1) h' → IsTupOf2 h' s.heap.objs.size x1 x2 →
      h'.get? (s.heap.objs.size + 1) = some { cls := .type "tuple", data := .seq #[.int i t, .ref s.heap.objs.size] } → (∀ c o, c ≠ e → c ≠ z → c ≠ TO → c ≠ i1 → c ≠ i2 → s.heap.get? c = some o → h'.get? c = some o) → Q (.ref (s.heap.objs.size + 1)) { s with heap := h', toks := tk }) :
    wpAny (model P w) A (Builtin.«enumerate.__next__» ⟨[.ref e], []⟩) (fun fin s' => ∃ v, fin = .done (.ret v) ∧ Q v s') E s := by
  obtain ⟨hp, g, d, tk0, os⟩ := s
  have hTy : Shared.TypeIs ⟨hp, g, d, tk0, os⟩ (.ref z) "zip" := ⟨_, hz, rfl⟩
  have ei1 : e ≠ i1 := fun q => e1 (q ▸ S.mem1)
  have ei2 : e ≠ i2 := fun q => e2 (q ▸ S.mem2)
  refine show wpAny _ _ (field (.ref e) 2 >>= _) _ _ _ from wpAny_bind (wpAny_field he rfl (x := .ref z) rfl (wpAny_bind ?_))
  unfold Builtin.SmallTypes.nextOf
  refine wpAny_bind (wpAny_callSpecial?_slot (name := Str.ofString "__next__") hTy PySem.F.slot_zip_next (wpAny_call_entry PySem.F.slot_zip_next hTy PySem.F.entry_zip_next (zip_nx S D1 D2 hz hf hTI hTO st1 st2 hlt1 hlt2 fun x1 x2 h1 tk f0' f' b1 b2 px1 px2 hz1 hf1 hT1 s1 s2 hp1 hsz1 hk1 => wpAny_pure ?_) (PySem.F.args_zip_next_1 _)))
  have elt : e < hp.objs.size := Heap.lt_size he
  have he1 : IsEnum h1 e z i old := hk1 e _ ez eT ei1 ei2 he
  refine show wpAny _ _ (field (.ref e) 3 >>= _) _ _ ⟨h1, g, d, tk, os⟩ from wpAny_bind (wpAny_field he1 rfl (x := rawInt i) rfl (show wpAny _ _ (field (.ref e) 4 >>= _) _ _ ⟨h1, g, d, tk, os⟩ from wpAny_bind (wpAny_field he1 rfl (x := .none) rfl (show wpAny _ _ (mkInt i >>= _) _ _ ⟨h1, g, d, tk, os⟩ from wpAny_bind (wpAny_mkInt ?_)))))
  refine show wpAny _ _ (setField (.ref e) 3 (rawInt ((i : Int) + 1)) >>= _) _ _ ⟨h1, g, d, tk + 1, os⟩ from wpAny_bind (wpAny_setField_rec he1 (by simp) fun h2 he2 hs2 => ?_)
  replace hs2 : Heap.SameBut e h1 h2 := hs2
  replace he2 : IsEnum h2 e z ((i : Int) + 1) old := he2
  refine show wpAny _ _ (setField (.ref e) 4 .none >>= _) _ _ ⟨h2, g, d, tk + 1, os⟩ from wpAny_bind (wpAny_setField_rec he2 (by simp) fun h3 he3 hs3 => ?_)
  replace hs3 : Heap.SameBut e h2 h3 := hs3
  replace he3 : IsEnum h3 e z ((i : Int) + 1) old := he3
  have q3 : h3.objs.size = hp.objs.size + 1 := by rw [hs3.1, hs2.1, hsz1]
  refine show wpAny _ _ (newTuple [.int i tk, .ref hp.objs.size] >>= _) _ _ ⟨h3, g, d, tk + 1, os⟩ from wpAny_bind (wpAny_newTuple ?_)
  have he4 : IsEnum (h3.push { cls := .type "tuple", data := .seq #[.int i tk, .ref hp.objs.size] }) e z ((i : Int) + 1) old := Heap.get?_push_of_some _ he3
  have ht4 : (h3.push { cls := .type "tuple", data := .seq #[.int i tk, .ref hp.objs.size] }).get? (hp.objs.size + 1) = some { cls := .type "tuple", data := .seq #[.int i tk, .ref hp.objs.size] } := by rw [← q3]; exact Heap.get?_push_size _ rfl
  have k4 : ∀ b o, b ≠ e → h1.get? b = some o → (h3.push { cls := .type "tuple", data := .seq #[.int i tk, .ref hp.objs.size] }).get? b = some o := fun b o hb q => Heap.get?_push_of_some _ (hs3.extBut b o hb (hs2.extBut b o hb q))
  generalize h3.push { cls := .type "tuple", data := .seq #[.int i tk, .ref hp.objs.size] } = h4 at he4 ht4 k4
  refine show wpAny _ _ (Builtin.SmallTypes.ownedTupleIsFree (.ref e) >>= _) _ _ ⟨h4, g, d, tk + 1, os⟩ from ?_
  rw [q3]
  refine wpAny_bind ?_
  unfold Builtin.SmallTypes.ownedTupleIsFree
  refine wpAny_bind (wpAny_field he4 rfl (x := .none) rfl (wpAny_pure ?_))
  simp only [if_true]
  refine wpAny_bind (wpAny_rule (wpAny_bind (wpAny_field he4 rfl (x := old) rfl (wpAny_bind (wpAny_setField_rec he4 (by simp) fun h5 he5 hs5 => ?_)))))
  replace hs5 : Heap.SameBut e h4 h5 := hs5
  replace he5 : IsEnum h5 e z ((i : Int) + 1) (.ref hp.objs.size) := he5
  refine show wpAny _ _ (Builtin.SmallTypes.ownedTupleHandOut (.ref e) (.ref (hp.objs.size + 1)) >>= _) _ _ ⟨h5, g, d, tk + 1, os⟩ from wpAny_bind ?_
  unfold Builtin.SmallTypes.ownedTupleHandOut
  refine wpAny_bind (wpAny_setField_rec he5 (by simp) fun h6 he6 hs6 => ?_)
  replace hs6 : Heap.SameBut e h5 h6 := hs6
  replace he6 : IsEnumOut h6 e z ((i : Int) + 1) (.ref hp.objs.size) (hp.objs.size + 1) := he6
  refine wpAny_setField_rec he6 (by simp) fun h7 he7 hs7 => ?_
  replace hs7 : Heap.SameBut e h6 h7 := hs7
  replace he7 : IsEnumOut h7 e z ((i : Int) + 1) (.ref hp.objs.size) (hp.objs.size + 1) := he7
  have k7 : ∀ b o, b ≠ e → h1.get? b = some o → h7.get? b = some o := fun b o hb q => hs7.extBut b o hb (hs6.extBut b o hb (hs5.extBut b o hb (k4 b o hb q)))
  refine wpAny_bind (wpAny_letGo (wpAny_pure ⟨_, rfl, hQ x1 x2 h7 (tk + 1) tk f0' f' b1 b2 px1 px2 he7 (k7 _ _ (Ne.symm ez) hz1) hf1 (k7 _ _ (Ne.symm eT) hT1) (D1.frame _ _ _ s1 fun b hb o q => k7 b o (fun z => e1 (z ▸ hb)) q) (D2.frame _ _ _ s2 fun b hb o q => k7 b o (fun z => e2 (z ▸ hb)) q) (k7 _ _ (Nat.ne_of_gt elt) hp1) ?_ fun c o c1 c2 c3 c4 c5 q => k7 c o c1 (hk1 c o c2 c3 c4 c5 q)⟩))
  have ne : hp.objs.size + 1 ≠ e := Nat.ne_of_gt (Nat.lt_succ_of_lt elt)
  exact hs7.extBut _ _ ne (hs6.extBut _ _ ne (hs5.extBut _ _ ne ht4))
theorem enz_item {e : Addr} {old : Value} {Q : Option Value → Shared → Prop} (S : ZipSep2 z TI TO i1 i2 fp1 fp2) (D1 : Draws P w A.in1.in1 i1 fp1 n1 P1 St1) (D2 : Draws P w A.in1.in1 i2 fp2 n2 P2 St2)
    (he : IsEnum s.heap e z i old) (hz : ZipAt s.heap z TI TO f0 (.bool f)) (hf : FreeV f0) (hTI : IsTupOf2 s.heap TI (.ref i1) (.ref i2)) (hTO : IsTupOf2 s.heap TO a1 a2) (st1 : St1 i s.heap) (st2 : St2 i s.heap) (hlt1 : i < n1) (hlt2 : i < n2)
    (ez : e ≠ z) (eT : e ≠ TO) (eI : e ≠ TI) (e1 : e ∉ fp1) (e2 : e ∉ fp2)
    (hQ : ∀ x1 x2 h' tk t f0' f' b1 b2, P1 i x1 → P2 i x2 → IsEnumOut h' e z ((i : Int) + 1) (.ref s.heap.objs.size) (s.heap.objs.size + 1) → ZipAt h' z TI TO f0' (.bool f') → FreeV f0' → IsTupOf2 h' TO b1 b2 → St1 (i + 1) h' → St2 (i + 1) h' → IsTupOf2 h' s.heap.objs.size x1 x2 →
      h'.get? (s.heap.objs.size + 1) = some { cls := .type "tuple", data := .seq #[.int i t, .ref s.heap.objs.size] } → (∀ c o, c ≠ e → c ≠ z → c ≠ TO → c ≠ i1 → c ≠ i2 → s.heap.get? c = some o → h'.get? c = some o) → Q (some (.ref (s.heap.objs.size + 1))) { s with heap := h', toks := tk }) :
    wpAny (model P w) A (pyNext (.ref e)) Q E s := by
  have hT : s.TypeIs (.ref e) "enumerate" := ⟨_, he, rfl⟩
  unfold pyNext
  refine wpAny_bind (wpAny_attempt (wpAny_callSpecial?_slot (name := Str.ofString "__next__") hT PySem.F.slot_enumerate_next (wpAny_call_entry PySem.F.slot_enumerate_next hT PySem.F.entry_enumerate_next (enz_body S D1 D2 he hz hf hTI hTO st1 st2 hlt1 hlt2 ez eT eI e1 e2 fun x1 x2 h' tk t f0' f' b1 b2 q1 q2 q3 q4 q5 q6 q7 q8 q9 qa qb => wpAny_pure (hQ x1 x2 h' tk t f0' f' b1 b2 q1 q2 q3 q4 q5 q6 q7 q8 q9 qa qb)) (PySem.F.args_enumerate_next_1 _))))
theorem enz_end {e : Addr} {old : Value} {Q : Option Value → Shared → Prop} (S : ZipSep2 z TI TO i1 i2 fp1 fp2) (D1 : Draws P w A.in1.in1 i1 fp1 n1 P1 St1) (D2 : Draws P w A.in1.in1 i2 fp2 n2 P2 St2)
    (he : IsEnum s.heap e z i old) (hz : ZipAt s.heap z TI TO f0 (.bool f)) (hf : FreeV f0) (hTI : IsTupOf2 s.heap TI (.ref i1) (.ref i2)) (hTO : IsTupOf2 s.heap TO a1 a2) (st1 : St1 i s.heap) (st2 : St2 i s.heap) (hle1 : i ≤ n1) (hle2 : i ≤ n2) (hend : i = n1 ∨ i = n2)
    (hQ : ∀ h' tk, (∀ c o, c ≠ z → c ≠ TO → c ≠ i1 → c ≠ i2 → s.heap.get? c = some o → h'.get? c = some o) → Q none { s with heap := h', toks := tk }) : wpAny (model P w) A (pyNext (.ref e)) Q E s := by
  have hT : s.TypeIs (.ref e) "enumerate" := ⟨_, he, rfl⟩
  have hTy : s.TypeIs (.ref z) "zip" := ⟨_, hz, rfl⟩
  unfold pyNext
  refine wpAny_bind (wpAny_attempt (wpAny_callSpecial?_slot (name := Str.ofString "__next__") hT PySem.F.slot_enumerate_next (wpAny_call_entry PySem.F.slot_enumerate_next hT PySem.F.entry_enumerate_next ?_ (PySem.F.args_enumerate_next_1 _))))
  refine show wpAny _ _ (field (.ref e) 2 >>= _) _ _ _ from wpAny_bind (wpAny_field he rfl (x := .ref z) rfl (wpAny_bind ?_))
  unfold Builtin.SmallTypes.nextOf
  refine wpAny_bind (wpAny_callSpecial?_slot (name := Str.ofString "__next__") hTy PySem.F.slot_zip_next (wpAny_call_entry PySem.F.slot_zip_next hTy PySem.F.entry_zip_next (zip_fin S D1 D2 hz hf hTI hTO st1 st2 hle1 hle2 hend fun h' tk x hk hx => ?_) (PySem.F.args_zip_next_1 _)))
  obtain ⟨o, ho, hc⟩ := hx
  exact wpAny_bind (wpAny_isInstance (T := "StopIteration") (b := true) ⟨o, ho, hc⟩ isSubtype_stop (wpAny_pure (hQ h' tk hk)))
end
end VC

set_option Elab.async false
set_option linter.all false
set_option maxRecDepth 100000
set_option maxHeartbeats 4000000
/-! XE: enumerate(zip(xs, ys)) as what a loop walks. -/
namespace VC
open PySem PySem.Spec PyProof.Rows L2
/-- an enumerate over an iterator that is there already -/
theorem meets_enumI {z : Addr} {H : Heap → Prop} (B : ∀ (P : Program) (w : World) (A : Around) (E : Value → Shared → Prop) (s : Shared) (Q : Value → Shared → Prop), H s.heap → Q (.ref z) s → wpAny (model P w) A (pyIter (.ref z)) Q E s) :
    Meets (Builtin.«enumerate.__new__» ⟨[.type "enumerate", .ref z], []⟩) (fun _ R s => H s.heap ∧ R (.ok (.ret (.ref s.heap.objs.size))) { s with heap := s.heap.push { cls := .type "enumerate", data := .fields #[.none, .bool false, .ref z, rawInt 0, .none, .none] } }) :=
  .of_wp fun P w A R s h => by
    obtain ⟨hp, g, d, tk, os⟩ := s; obtain ⟨h1, h⟩ := h
    have hsub := sub_enumerate
    have q1 : ∀ {A' : Around} {E : Value → Shared → Prop} {Q : Value → Shared → Prop}, Q (.ref z) ⟨hp, g, d, tk, os⟩ → wpAny (model P w) A' (pyIter (.ref z)) Q E ⟨hp, g, d, tk, os⟩ := fun q => B P w _ _ ⟨hp, g, d, tk, os⟩ _ h1 q
    wp_walk using q1
    refine wpAny_stack_any fun st => wpAny_pure ?_
    split
    · rename_i c _ _ _ _ _
      cases (c == Value.type "enumerate")
      · wp_walk using q1
        exact ⟨_, rfl, h⟩
      · wp_walk using q1
        exact ⟨_, rfl, h⟩
    · wp_walk using q1
      exact ⟨_, rfl, h⟩
theorem enum_beginsI {P : Program} {w : World} {A : Around} {E : Value → Shared → Prop} {s : Shared} {z : Addr} {H : Heap → Prop} {Q : Value → Shared → Prop} (B : ∀ (P : Program) (w : World) (A : Around) (E : Value → Shared → Prop) (s : Shared) (Q : Value → Shared → Prop), H s.heap → Q (.ref z) s → wpAny (model P w) A (pyIter (.ref z)) Q E s) (h1 : H s.heap)
    (h : ∀ h', IsEnum h' s.heap.objs.size z 0 .none → (∀ b o, s.heap.get? b = some o → h'.get? b = some o) → Q (.ref s.heap.objs.size) { s with heap := h' }) :
    wpAny (model P w) A (call (.type "enumerate") [.ref z]) Q E s := by
  refine callType_new PySem.F.called_enumerate (by decide) (PySem.F.typeCall_enumerate_1 _) (PySem.F.newCall_enumerate_1 _) (fun obj => PySem.F.args_object_init_2 obj _) PySem.F.entry_enumerate_new (meets_enumI B) ⟨h1, ?_⟩
  have he : IsEnum (s.heap.push { cls := .type "enumerate", data := .fields #[.none, .bool false, .ref z, rawInt 0, .none, .none] }) s.heap.objs.size z 0 .none := Heap.get?_push_size _ rfl
  exact ⟨⟨_, he, rfl⟩, h _ he fun b o x => Heap.get?_push_of_some _ x⟩
/-- a walk of n turns, each a new pair of the turn's number and a new pair -/
def Itez (C : Hp → Prop) (n : Nat) (f : Nat → List V) : It :=
  ⟨fun i H => C H ∧ i < n, fun i H v H' => ∃ T, v = .ref (T + 1) ∧ H T = none ∧ H (T + 1) = none ∧ H' = upd (upd H T (.tup (f i))) (T + 1) (.tup [.int (i : Nat), .ref T]), fun i H => C H ∧ i = n⟩
theorem turn_ez {P : Program} {w : World} {K : PySem.W.Frag} {elts : List Expr} {kk : Nat} {tpos : Pos} {k1 k2 : Bool} {xs ys : List V} {a b e z TI TO i1 i2 : Addr} (S : ZipSep2 z TI TO i1 i2 [i1, a] [i2, b]) (ha : a ≠ i1) (hb : b ≠ i2) (ez : e ≠ z) (eI : e ≠ TI) (eT : e ≠ TO) (e1 : e ∉ [i1, a]) (e2 : e ∉ [i2, b]) :
    Turn P w K (.Tuple elts kk tpos) (Itez (fun H => SqK k1 H a xs ∧ SqK k2 H b ys) (min xs.length ys.length) (zpF xs ys)) [e, z, TI, TO, i1, i2] e
      (fun i h => (∃ old, IsEnum h e z ((i : Nat) : Int) old) ∧ (∃ f0 f, ZipAt h z TI TO f0 (.bool f) ∧ FreeV f0) ∧ IsTupOf2 h TI (.ref i1) (.ref i2) ∧ (∃ x y, IsTupOf2 h TO x y) ∧ ItAt k1 h i1 a i ∧ ItAt k2 h i2 b i) := by
  have src : ∀ (X : Cx), X.prog = P → X.w = w → X.calm = true → ∀ (pins : List (Addr × Obj)) (s : Shared) (σ : L2.St) (H : Hp), Inv X pins σ H s → SqK k1 H a xs ∧ SqK k2 H b ys → ∃ ix iy : List Value, Vals xs ix ∧ Vals ys iy ∧ SqB k1 s.heap a ix.toArray ∧ SqB k2 s.heap b iy.toArray ∧
      Draws P w X.A.in1.in1 i1 [i1, a] xs.length (fun i v => ix.toArray[i]? = some v) (fun i h => ItAt k1 h i1 a i ∧ SqB k1 h a ix.toArray) ∧ Draws P w X.A.in1.in1 i2 [i2, b] ys.length (fun i v => iy.toArray[i]? = some v) (fun i h => ItAt k2 h i2 b i ∧ SqB k2 h b iy.toArray) := by
    intro X hP hw hc pins s σ H I hC
    obtain ⟨its, rv, hs, hz, hl⟩ := Inv.sqk I hC.1
    obtain ⟨its2, rv2, hs2, hz2, hl2⟩ := Inv.sqk I hC.2
    have D := draws_sq (prog := P) (w := w) (A := X.A.in1.in1) (I.ok.hd hc) k1 i1 a ha its.toArray
    have D2 := draws_sq (prog := P) (w := w) (A := X.A.in1.in1) (I.ok.hd hc) k2 i2 b hb its2.toArray
    rw [show its.toArray.size = xs.length by rw [List.size_toArray]; exact rv.length.symm] at D
    rw [show its2.toArray.size = ys.length by rw [List.size_toArray]; exact rv2.length.symm] at D2
    exact ⟨its, its2, rv, rv2, hs, hs2, D, D2⟩
  have ei1 : e ≠ i1 := fun q => e1 (by simp [q])
  have ei2 : e ≠ i2 := fun q => e2 (by simp [q])
  refine ⟨by simp, fun i h st c hc => ?_, fun i h h' st k => ?_, ?_, ?_, fun A i s Q E st h => let ⟨⟨_, he⟩, _⟩ := st; wpAny_pyIter_enum he h⟩
  · obtain ⟨⟨old, he⟩, ⟨f0, f, hz, _⟩, hTI, ⟨x, y, hTO⟩, h1, h2⟩ := st
    have e' : c = e ∨ c = z ∨ c = TI ∨ c = TO ∨ c = i1 ∨ c = i2 := by simpa using hc
    rcases e' with q | q | q | q | q | q
    · rw [q]; exact ⟨_, he, fun v q => nomatch q⟩
    · rw [q]; exact ⟨_, hz, fun v q => nomatch q⟩
    · rw [q]; exact ⟨_, hTI, fun v q => nomatch q⟩
    · rw [q]; exact ⟨_, hTO, fun v q => nomatch q⟩
    · rw [q]; exact h1.obj
    · rw [q]; exact h2.obj
  · obtain ⟨⟨old, he⟩, ⟨f0, f, hz, hf⟩, hTI, ⟨x, y, hTO⟩, h1, h2⟩ := st
    exact ⟨⟨old, k e (by simp) _ he⟩, ⟨f0, f, k z (by simp) _ hz, hf⟩, k TI (by simp) _ hTI, ⟨x, y, k TO (by simp) _ hTO⟩, h1.at fun o q => k i1 (by simp) o q, h2.at fun o q => k i2 (by simp) o q⟩
  · intro X hP hw hK hc i pins s σ H E I hf st ⟨hC, hi⟩
    obtain ⟨ix, iy, rx, ry, sx, sy, D1, D2⟩ := src X hP hw hc pins s σ H I hC
    subst hP hw hK
    obtain ⟨⟨old, he⟩, ⟨f0, f, hz, hfr⟩, hTI, ⟨x, y, hTO⟩, h1, h2⟩ := st
    have h1x : i < xs.length := by omega
    have h1y : i < ys.length := by omega
    refine enz_item S D1 D2 he hz hfr hTI hTO ⟨h1, sx⟩ ⟨h2, sy⟩ h1x h1y ez eT eI e1 e2 fun x1 x2 h' tk t f0' f' b1 b2 px py he' hz' hf' hTO' s1 s2 hp hq hk => ?_
    refine ⟨_, rfl, wpAny_letOwnedTupleGo_enum (s := { s with heap := h', toks := tk }) he' fun h'' he2 sb => ?_⟩
    have elt : e < s.heap.objs.size := Heap.lt_size he
    have kk : ∀ c o, c ≠ e → h'.get? c = some o → h''.get? c = some o := fun c o hc q => (sb.2 c hc).trans q
    have vx : RelV (xs.getD i .non) x1 := vals_getD rx (by simpa using px)
    have vy : RelV (ys.getD i .non) x2 := vals_getD ry (by simpa using py)
    have n1 : H s.heap.objs.size = none := I.hok.fresh (Nat.le_refl _)
    have n2 : H (s.heap.objs.size + 1) = none := I.hok.fresh (Nat.le_succ _)
    have I1 : Inv X pins σ H { s with heap := h'', toks := tk } := I.turnedL (t' := tk) (ch := [e, z, TI, TO, i1, i2]) (fun c o hc q => kk c o (fun z => hc (by simp [z])) (hk c o (fun z => hc (by simp [z])) (fun z => hc (by simp [z])) (fun z => hc (by simp [z])) (fun z => hc (by simp [z])) (fun z => hc (by simp [z])) q)) hf
    have o1 : ∀ H2, ObjOk X.prog X.w H2 h'' s.heap.objs.size (.tup (zpF xs ys i)) := fun H2 => ⟨show 2 ≤ sizeLine by decide, [x1, x2], .cons vx (.cons vy .nil), ⟨_, kk _ _ (Nat.ne_of_gt elt) hp, rfl, 0, rfl⟩⟩
    have I2 : Inv X pins σ (upd H s.heap.objs.size (.tup (zpF xs ys i))) { s with heap := h'', toks := tk } := I1.take (h' := h'') (t' := tk) (fun b ob _ q => q) (I.fpOk (Nat.le_refl _) n1) (o1 _)
    have n3 : upd H s.heap.objs.size (.tup (zpF xs ys i)) (s.heap.objs.size + 1) = none := by rw [upd_ne (Nat.succ_ne_self _)]; exact n2
    have o2 : ∀ H2, ObjOk X.prog X.w H2 h'' (s.heap.objs.size + 1) (.tup [.int (i : Nat), .ref s.heap.objs.size]) := fun H2 => ⟨show 2 ≤ sizeLine by decide, [.int i t, .ref s.heap.objs.size], .cons ⟨t, rfl⟩ (.cons rfl .nil), ⟨_, kk _ _ (Nat.ne_of_gt (Nat.lt_succ_of_lt elt)) hq, rfl, 0, rfl⟩⟩
    have I3 := I2.take (h' := h'') (t' := tk) (fun b ob _ q => q) (I.fpOk (Nat.le_succ _) n3) (o2 _)
    refine ⟨.ref (s.heap.objs.size + 1), _, I3, rfl, ⟨s.heap.objs.size, rfl, n1, n2, rfl⟩, ⟨⟨_, he2⟩, ⟨f0', f', kk _ _ (Ne.symm ez) hz', hf'⟩, kk _ _ (Ne.symm eI) (hk _ _ (Ne.symm eI) S.TIz S.TITO S.TIi1 S.TIi2 hTI), ⟨b1, b2, kk _ _ (Ne.symm eT) hTO'⟩, s1.1.at fun o q => kk _ _ (Ne.symm ei1) q, s2.1.at fun o q => kk _ _ (Ne.symm ei2) q⟩, fun c hc => ?_⟩
    have lc : c < s.heap.objs.size := by
      have e' : c = e ∨ c = z ∨ c = TI ∨ c = TO ∨ c = i1 ∨ c = i2 := by simpa using hc
      rcases e' with q | q | q | q | q | q
      · rw [q]; exact elt
      · rw [q]; exact Heap.lt_size hz
      · rw [q]; exact Heap.lt_size hTI
      · rw [q]; exact Heap.lt_size hTO
      · rw [q]; obtain ⟨o, ho, _⟩ := h1.obj; exact Heap.lt_size ho
      · rw [q]; obtain ⟨o, ho, _⟩ := h2.obj; exact Heap.lt_size ho
    rw [upd_ne (Nat.ne_of_lt (Nat.lt_succ_of_lt lc)), upd_ne (Nat.ne_of_lt lc)]
    exact (hf c hc).1
  · intro X hP hw hK hc i pins s σ H E I hf st ⟨hC, hi⟩
    obtain ⟨ix, iy, rx, ry, sx, sy, D1, D2⟩ := src X hP hw hc pins s σ H I hC
    subst hP hw hK
    obtain ⟨⟨old, he⟩, ⟨f0, f, hz, hfr⟩, hTI, ⟨x, y, hTO⟩, h1, h2⟩ := st
    exact enz_end S D1 D2 he hz hfr hTI hTO ⟨h1, sx⟩ ⟨h2, sy⟩ (by omega) (by omega) (by omega) fun h' tk hk => ⟨rfl, I.turnedL (t' := tk) (ch := [e, z, TI, TO, i1, i2]) (fun c o hc q => hk c o (fun z => hc (by simp [z])) (fun z => hc (by simp [z])) (fun z => hc (by simp [z])) (fun z => hc (by simp [z])) q) hf⟩
end VC

set_option Elab.async false
set_option linter.all false
set_option maxRecDepth 100000
set_option maxHeartbeats 4000000
/-! XF: enumerate(zip(xs, ys)) in a for. -/
namespace VC
open PySem PySem.Spec PyProof.Rows L2
section
variable {X : Cx} {B : Hp} {g0 : Gh} {e e2 : Expr} {p0 p pos pos0 tpos : Pos} {elts : List Expr} {kk : Nat}
theorem n54 (n : Nat) : n + 5 ≠ n + 4 := by omega
theorem n52 (n : Nat) : n + 5 ≠ n + 2 := by omega
theorem n53 (n : Nat) : n + 5 ≠ n + 3 := by omega
theorem n50 (n : Nat) : n + 5 ≠ n := by omega
theorem n51 (n : Nat) : n + 5 ≠ n + 1 := by omega
theorem ezN {n i j : Nat} (h : ∀ n, n + i ≠ n + j) : n + i ≠ n + j := h n
theorem ezM {n a : Nat} {f : Nat → Nat} (h : ∀ n : Nat, n + 5 ≠ f n) (la : a < n) : n + 5 ∉ [f n, a] := by
  intro q
  rcases List.mem_cons.mp q with q | q
  · exact h n q
  · have := List.mem_singleton.mp q; omega
theorem ez6 {n c : Nat} (h : c = n + 5 ∨ c = n + 4 ∨ c = n + 2 ∨ c = n + 3 ∨ c = n ∨ c = n + 1) : n ≤ c := by omega
def iEzX (ta : TA) : TI := fun σ H R => ta σ H fun vs H1 => ∃ a b xs ys k1 k2, vs = [.ref a, .ref b] ∧ SqK k1 H1 a xs ∧ SqK k2 H1 b ys ∧ R (Itez (fun H => SqK k1 H a xs ∧ SqK k2 H b ys) (min xs.length ys.length) (zpF xs ys)) H1
theorem pi_ezX {ta : TA} (hg : Gl X "enumerate") (hm : X.mg "enumerate" = none) (hg2 : Gl X "zip") (hm2 : X.mg "zip" = none) (ha : PA X [e, e2] ta)
    (hs : starEach [e, e2] X.env = (false, eval e X.env) :: starEach [e2] X.env := by rfl) (hpl : (backTo pos (starEach [e2] X.env)).any (·.1) = false := by rfl)
    (na : starEach [.Call (.Name "zip" p) [e, e2] [] pos] X.env = (false, eval (.Call (.Name "zip" p) [e, e2] [] pos) X.env) :: starEach [] X.env := by rfl) :
    PI X (.Tuple elts kk tpos) (.Call (.Name "enumerate" p0) [.Call (.Name "zip" p) [e, e2] [] pos] [] pos0) (iEzX ta) := by
  refine ⟨fun pins s σ H R I h => ?_⟩
  refine Call_ (ld_blt I hg hm boot_enumerate (PyProof.Rows.callWith_type1 (args_cons ?_ na) na))
  refine Call_ (ld_blt I hg2 hm2 PyProof.Rows.boot_zip (PyProof.Rows.callWith_type1 (thn (ha.run pos pins s σ H _ I h) fun us s1 ⟨vs, H1, I1, r1, q1⟩ => ?_) hs hpl))
  obtain ⟨a, b, xs, ys, k1, k2, ex, hqx, hqy, q⟩ := q1
  subst ex
  cases r1 with
  | cons r rr =>
    cases rr with
    | cons r' rr =>
      cases rr
      cases r
      cases r'
      obtain ⟨its, rv, hb1, _, la⟩ := Inv.sqk I1 hqx
      obtain ⟨its2, rv2, hb2, _, lb⟩ := Inv.sqk I1 hqy
      refine zip_begins2 (begins_sq k1 a its.toArray) (begins_sq k2 b its2.toArray) hb1 hb2 fun h' hz hTI hTO h1 h2 hsz hk => args_nil ?_
      refine enum_beginsI (H := fun h => IsZip h (s1.heap.objs.size + 4) (s1.heap.objs.size + 2) (s1.heap.objs.size + 3) .none) (fun P w A E s Q h q => wpAny_pyIter_zip h q) hz fun h2' he hk2 => wpAny_pyIter_enum he ?_
      replace hk2 : ∀ b o, h'.get? b = some o → h2'.get? b = some o := hk2
      have I2 : Inv X pins σ H1 { s1 with heap := h2' } := I1.kept (t' := s1.toks) fun b o q => hk2 b o (hk b o q)
      have hsz' : h'.objs.size = s1.heap.objs.size + 5 := hsz
      replace he : IsEnum h2' h'.objs.size (s1.heap.objs.size + 4) 0 .none := he
      rw [hsz'] at he
      rw [hsz']
      have kk2 : ∀ c o, h'.get? c = some o → h2'.get? c = some o := hk2
      refine ⟨s1.heap.objs.size + 5, [s1.heap.objs.size + 5, s1.heap.objs.size + 4, s1.heap.objs.size + 2, s1.heap.objs.size + 3, s1.heap.objs.size, s1.heap.objs.size + 1], _, _, H1, rfl, I2, turn_ez (k1 := k1) (k2 := k2) (a := a) (b := b) (zipSep la lb) (Nat.ne_of_lt la) (Nat.ne_of_lt (Nat.lt_succ_of_lt lb)) (ezN n54) (ezN n52) (ezN n53) (ezM n50 la) (ezM n51 lb), ⟨⟨.none, he⟩, ⟨.none, false, kk2 _ _ hz, .inl rfl⟩, kk2 _ _ hTI, ⟨_, _, kk2 _ _ hTO⟩, ItAt.new (kk2 _ _ h1), ItAt.new (kk2 _ _ h2)⟩, fun c hcm => ?_, q⟩
      have hle : s1.heap.objs.size ≤ c := by
        have e' : c = s1.heap.objs.size + 5 ∨ c = s1.heap.objs.size + 4 ∨ c = s1.heap.objs.size + 2 ∨ c = s1.heap.objs.size + 3 ∨ c = s1.heap.objs.size ∨ c = s1.heap.objs.size + 1 := by simpa using hcm
        exact ez6 e'
      exact I1.fpOk hle (I1.hok.fresh hle)
theorem jok_ez {mg : Str → Option Value} {w : WK} {g : Gh} {H : Hp} {a b : Addr} {vs us : List V} {ds es : List D} {k1 k2 : Bool} (hs : ∀ g' H', Fz g H g' H' → SqK k1 H' a vs) (hs2 : ∀ g' H', Fz g H g' H' → SqK k2 H' b us) (r : RepAll mg w g H ds vs) (r2 : RepAll mg w g H es us) :
    JOk mg w g H (Itez (fun H => SqK k1 H a vs ∧ SqK k2 H b us) (min vs.length us.length) (zpF vs us)) (enumD 0 (zipD ds es)) := by
  intro g' H' z tr i
  refine ⟨fun d hd => ?_, fun hl => ⟨⟨hs g' H' z, hs2 g' H' z⟩, by rw [hl, enumD_len, zipD_len, r.length, r2.length]⟩⟩
  obtain ⟨d', h1, h2⟩ := enumD_get (zipD ds es) 0 i hd
  obtain ⟨d1, d2, p1, p2, p3⟩ := zipD_get ds es i h1
  have hi : i < min vs.length us.length := by
    rw [← r.length, ← r2.length]
    have := (List.getElem?_eq_some_iff.mp p1).1
    have := (List.getElem?_eq_some_iff.mp p2).1
    omega
  refine ⟨⟨⟨hs g' H' z, hs2 g' H' z⟩, hi⟩, fun x H2 ⟨T, e1, e2, e3, e4⟩ => ?_⟩
  subst e1 e4 h2 p3
  have n1 := New.upd (o := HO.tup (zpF vs us i)) e2
  have e3' : upd H' T (.tup (zpF vs us i)) (T + 1) = none := by rw [upd_ne (Nat.succ_ne_self _)]; exact e3
  have n2 := New.upd (o := HO.tup [.int ((i : Nat) : Int), .ref T]) e3'
  have hn := n1.trans n2
  have f := Fz.new hn tr
  refine ⟨hn, .tup upd_same (.cons (by rw [Nat.zero_add]; exact .int _) (.cons (.tup (by rw [upd_ne (Nat.ne_of_lt (Nat.lt_succ_self _))]; exact upd_same) (.cons (((r.mono z).getD p1).mono f) (.cons (((r2.mono z).getD p2).mono f) .nil))) .nil))⟩
def iEz (W : WA) : WA := fun env S Q => W env S fun ds env' S' => match ds with
  | [d, e] => sqD d fun ds => sqD e fun es => Q (enumD 0 (zipD ds es)) env' S'
  | _ => False
theorem vi_ez {W : WA} (hg : Gl X "enumerate") (hm : X.mg "enumerate" = none) (hg2 : Gl X "zip") (hm2 : X.mg "zip" = none) (ha : VA X B g0 [e, e2] W)
    (hs : starEach [e, e2] X.env = (false, eval e X.env) :: starEach [e2] X.env := by rfl) (hpl : (backTo pos (starEach [e2] X.env)).any (·.1) = false := by rfl)
    (na : starEach [.Call (.Name "zip" p) [e, e2] [] pos] X.env = (false, eval (.Call (.Name "zip" p) [e, e2] [] pos) X.env) :: starEach [] X.env := by rfl) :
    VI X B g0 (.Tuple elts kk tpos) (.Call (.Name "enumerate" p0) [.Call (.Name "zip" p) [e, e2] [] pos] [] pos0) (iEz W) := by
  refine VI.of (fun _ _ _ _ i q => ha.mono _ _ _ _ (fun ds _ _ q => ?_) q) (pi_ezX hg hm hg2 hm2 ha.pa hs hpl na) fun σ H env S g Q R q => ?_
  · split at q
    · exact sqD_mono (fun _ => sqD_mono fun _ => i _ _ _) q
    · exact q.elim
  · refine ⟨env, S, g, _, R, q, fun vs H1 ⟨g1, ds, env1, S1, st1, R1, ra, q1⟩ => ?_⟩
    dsimp only at q1
    split at q1
    · cases ra with
      | cons r ra =>
        cases ra with
        | cons r' ra =>
          cases ra
          obtain ⟨ds, hd, q1⟩ := sqD_of q1
          obtain ⟨es, he, q1⟩ := sqD_of q1
          obtain ⟨a, us, k1, rfl, h1, h2, h3⟩ := rep_sq r hd
          obtain ⟨b, ws, k2, rfl, j1, j2, j3⟩ := rep_sq r' he
          exact ⟨a, b, us, ws, k1, k2, rfl, h1, j1, g1, _, env1, S1, st1, R1, jok_ez h3 j3 h2 j2, q1⟩
    · exact q1.elim
end
end VC

set_option Elab.async false
set_option linter.all false
set_option maxRecDepth 100000
set_option maxHeartbeats 4000000
/-! M1: stages, memories, chains; what they do. -/
namespace VC
open PySem PySem.Spec PyProof.Rows L2
inductive Stg where
  | slew (u d : Int) | clip (l h : Int) | gate (l h : Int) | hold (w : Int)
deriving DecidableEq
inductive Mem where
  | one (i : Int) | two (i j : Int)
deriving DecidableEq
structure Chn where
  top : Int
  start : Int
  stages : List Stg
deriving DecidableEq
@[reducible] def Stg.d : Stg → D
  | .slew u d => .tup [.str "slew", .int u, .int d]
  | .clip l h => .tup [.str "clip", .int l, .int h]
  | .gate l h => .tup [.str "gate", .int l, .int h]
  | .hold w => .tup [.str "hold", .int w]
@[reducible] def Mem.d : Mem → D
  | .one i => .int i
  | .two i j => .tup [.int i, .int j]
@[reducible] def Chn.d (c : Chn) : D := .tup [.int c.top, .int c.start, .tup (c.stages.map Stg.d)]
@[reducible] def intsT (l : List Int) : D := .tup (l.map .int)
@[reducible] def memsT (l : List Mem) : D := .tup (l.map Mem.d)
def Stg.Ok (top : Int) : Stg → Prop
  | .slew u d => 0 ≤ u ∧ u ≤ 5 ∧ 0 ≤ d ∧ d ≤ 5
  | .clip l h => 0 ≤ l ∧ l ≤ top ∧ l ≤ h ∧ h ≤ top
  | .gate l h => 0 ≤ l ∧ l ≤ top ∧ l ≤ h ∧ h ≤ top
  | .hold w => 1 ≤ w ∧ w ≤ 2
def Stg.keep : Stg → Bool
  | .clip _ _ => false
  | _ => true
def keeps (ss : List Stg) : Nat := (ss.filter Stg.keep).length
structure Chn.Ok (c : Chn) : Prop where
  t1 : 1 ≤ c.top
  t5 : c.top ≤ 5
  s0 : 0 ≤ c.start
  st : c.start ≤ c.top
  len : c.stages.length ≤ 3
  ok : ∀ s ∈ c.stages, s.Ok c.top
  kp : keeps c.stages ≤ 2
/-- a level of the chain -/
def Lev (top x : Int) : Prop := 0 ≤ x ∧ x ≤ top
/-- a memory that the stage may have -/
def Stg.Fit (top : Int) : Stg → Mem → Prop
  | .slew _ _, .one i => 0 ≤ i ∧ i ≤ top
  | .clip _ _, .one i => i = 0
  | .gate _ _, .one i => i = 0 ∨ i = 1
  | .hold w, .two i j => 0 ≤ i ∧ i ≤ top ∧ 0 ≤ j ∧ j ≤ w
  | _, _ => False
inductive Fits (top : Int) : List Stg → List Mem → Prop
  | nil : Fits top [] []
  | cons {s m ss ms} : s.Fit top m → Fits top ss ms → Fits top (s :: ss) (m :: ms)
def btw (x l h : Int) : Int := if h < (if l > x then l else x) then h else (if l > x then l else x)
def opn (b x : Int) : Int := if decide (b ≤ x) = true then 1 else 0
def firstOf : Stg → Int → Int × Mem
  | .slew _ _, x => (x, .one x)
  | .clip l h, x => (btw x l h, .one 0)
  | .gate _ h, x => (x * opn h x, .one (opn h x))
  | .hold _, x => (x, .two x 0)
def moved : Stg → Mem → Int → Int × Mem
  | .slew u d, .one m, x => (btw x (m - d) (m + u), .one (btw x (m - d) (m + u)))
  | .clip l h, _, x => (btw x l h, .one 0)
  | .gate l h, .one m, x => (x * opn (if m = 1 then l else h) x, .one (opn (if m = 1 then l else h) x))
  | .hold w, .two a b, x => if 0 < b then (a, .two a (b - 1)) else (x, .two x (if x = a then 0 else w))
  | _, m, x => (x, m)
def firstAll : List Stg → Int → List Mem
  | [], _ => []
  | s :: ss, x => (firstOf s x).2 :: firstAll ss (firstOf s x).1
def step : List Stg → List Mem → Int → Int × List Mem
  | s :: ss, m :: ms, x => ((step ss ms (moved s m x).1).1, (moved s m x).2 :: (step ss ms (moved s m x).1).2)
  | _, _, x => (x, [])
def runs : List Stg → List Mem → List Int → List Int × List Mem
  | _, ms, [] => ([], ms)
  | ss, ms, x :: xs => ((step ss ms x).1 :: (runs ss (step ss ms x).2 xs).1, (runs ss (step ss ms x).2 xs).2)
def Chn.first (c : Chn) : List Mem := firstAll c.stages c.start
theorem btw_lev {x l h top : Int} (h0 : 0 ≤ l) (h1 : l ≤ h) (h2 : h ≤ top) : Lev top (btw x l h) := by
  unfold btw Lev; split <;> split <;> omega
theorem btw_lev2 {x l h top : Int} (hx : Lev top x) (hl : l ≤ top) (hh : 0 ≤ h) : Lev top (btw x l h) := by
  unfold btw Lev at *; repeat' split
  all_goals omega
theorem opn_01 (b x : Int) : opn b x = 0 ∨ opn b x = 1 := by unfold opn; split <;> simp
theorem opn_lev {b x top : Int} (hx : Lev top x) : Lev top (x * opn b x) := by
  unfold Lev at *
  rcases opn_01 b x with h | h <;> rw [h] <;> omega
theorem firstOf_ok {top x : Int} {s : Stg} (hs : s.Ok top) (hx : Lev top x) : Lev top (firstOf s x).1 ∧ s.Fit top (firstOf s x).2 := by
  cases s with
  | slew u d => exact ⟨hx, hx⟩
  | clip l h => obtain ⟨h1, h2, h3, h4⟩ := hs; exact ⟨btw_lev h1 h3 h4, rfl⟩
  | gate l h => exact ⟨opn_lev hx, opn_01 _ _⟩
  | hold w => obtain ⟨h1, h2⟩ := hs; exact ⟨hx, hx.1, hx.2, Int.le_refl 0, by omega⟩
theorem moved_ok {top x : Int} {s : Stg} {m : Mem} (hs : s.Ok top) (hm : s.Fit top m) (hx : Lev top x) : Lev top (moved s m x).1 ∧ s.Fit top (moved s m x).2 := by
  cases s with
  | slew u d =>
    cases m with
    | one i =>
      obtain ⟨h1, h2, h3, h4⟩ := hs; obtain ⟨k1, k2⟩ := hm
      have := btw_lev2 (l := i - d) (h := i + u) hx (by omega) (by omega)
      exact ⟨this, this⟩
    | two i j => exact hm.elim
  | clip l h => obtain ⟨h1, h2, h3, h4⟩ := hs; exact ⟨btw_lev h1 h3 h4, rfl⟩
  | gate l h =>
    cases m with
    | one i => exact ⟨opn_lev hx, opn_01 _ _⟩
    | two i j => exact hm.elim
  | hold w =>
    cases m with
    | one i => exact hm.elim
    | two i j =>
      obtain ⟨h1, h2⟩ := hs; obtain ⟨k1, k2, k3, k4⟩ := hm
      simp only [moved]
      split
      · exact ⟨⟨k1, k2⟩, k1, k2, by omega, by omega⟩
      · refine ⟨hx, hx.1, hx.2, ?_, ?_⟩
        · split <;> omega
        · split <;> omega
theorem firstAll_ok {top : Int} : ∀ {ss : List Stg} {x : Int}, (∀ s ∈ ss, s.Ok top) → Lev top x → Fits top ss (firstAll ss x)
  | [], _, _, _ => .nil
  | s :: ss, x, h, hx =>
    have k := firstOf_ok (h s (List.mem_cons_self ..)) hx
    .cons k.2 (firstAll_ok (fun s hs => h s (List.mem_cons_of_mem _ hs)) k.1)
theorem step_ok {top : Int} : ∀ {ss : List Stg} {ms : List Mem} {x : Int}, (∀ s ∈ ss, s.Ok top) → Fits top ss ms → Lev top x → Lev top (step ss ms x).1 ∧ Fits top ss (step ss ms x).2
  | _, _, x, _, .nil, hx => ⟨hx, .nil⟩
  | _, _, x, h, .cons h1 h2, hx =>
    have k := moved_ok (h _ (List.mem_cons_self ..)) h1 hx
    have r := step_ok (fun s hs => h s (List.mem_cons_of_mem _ hs)) h2 k.1
    ⟨r.1, .cons k.2 r.2⟩
theorem runs_ok {top : Int} {ss : List Stg} (h : ∀ s ∈ ss, s.Ok top) : ∀ {xs : List Int} {ms : List Mem}, Fits top ss ms → (∀ x ∈ xs, Lev top x) → (∀ x ∈ (runs ss ms xs).1, Lev top x) ∧ Fits top ss (runs ss ms xs).2
  | [], ms, hf, _ => ⟨fun _ h => by simp [runs] at h, hf⟩
  | x :: xs, ms, hf, hx => by
    have k := step_ok h hf (hx x (List.mem_cons_self ..))
    have r := runs_ok h k.2 (fun y hy => hx y (List.mem_cons_of_mem _ hy))
    refine ⟨fun y hy => ?_, r.2⟩
    simp only [runs, List.mem_cons] at hy
    rcases hy with rfl | hy
    · exact k.1
    · exact r.1 y hy
theorem Fits.len {top : Int} : ∀ {ss : List Stg} {ms : List Mem}, Fits top ss ms → ms.length = ss.length
  | _, _, .nil => rfl
  | _, _, .cons _ h => by rw [List.length_cons, List.length_cons, h.len]
theorem runs_len {ss : List Stg} : ∀ {xs : List Int} {ms : List Mem}, (runs ss ms xs).1.length = xs.length
  | [], _ => rfl
  | x :: xs, ms => by simp [runs, runs_len]
theorem Chn.first_ok {c : Chn} (h : c.Ok) : Fits c.top c.stages c.first := firstAll_ok h.ok ⟨h.s0, h.st⟩
/-! as data -/
theorem stg_ok (s : Stg) : okd s.d 1 = true := by cases s <;> simp [Stg.d, okd, okds] <;> decide +kernel
theorem mem_ok (m : Mem) : okd m.d 1 = true := by cases m <;> simp [Mem.d, okd, okds]
theorem chn_ok (c : Chn) : okd c.d 3 = true := by
  simp only [Chn.d, okd, okds, Bool.true_and, Bool.and_true]
  exact okds_map fun s _ => stg_ok s
theorem ints_ok (l : List Int) : okd (intsT l) 1 = true := by
  simp only [intsT, okd]
  exact okds_map fun s _ => rfl
theorem mems_ok (l : List Mem) : okd (memsT l) 2 = true := by
  simp only [memsT, okd]
  exact okds_map fun s _ => mem_ok s
theorem memd_inj {a b : Mem} (h : a.d = b.d) : a = b := by
  cases a <;> cases b <;> simp [Mem.d] at h
  · rw [h]
  · rw [h.1, h.2]
theorem map_inj {α : Type} {f : α → D} (hf : ∀ a b, f a = f b → a = b) : ∀ {l k : List α}, l.map f = k.map f → l = k
  | [], [], _ => rfl
  | [], _ :: _, h => by simp at h
  | _ :: _, [], h => by simp at h
  | a :: l, b :: k, h => by
    simp only [List.map_cons, List.cons.injEq] at h
    rw [hf _ _ h.1, map_inj hf h.2]
theorem ints_inj {l k : List Int} (h : intsT l = intsT k) : l = k := map_inj (fun _ _ h => D.int.inj h) (D.tup.inj h)
theorem mems_inj {l k : List Mem} (h : memsT l = memsT k) : l = k := map_inj (fun _ _ h => memd_inj h) (D.tup.inj h)
theorem ints_iff {l k : List Int} : intsT l = intsT k ↔ l = k := ⟨ints_inj, fun h => by rw [h]⟩
theorem mems_iff {l k : List Mem} : memsT l = memsT k ↔ l = k := ⟨mems_inj, fun h => by rw [h]⟩
theorem memsT_snoc (l : List Mem) (m : Mem) : memsT (l ++ [m]) = .tup (l.map Mem.d ++ [m.d]) := by simp [memsT]
theorem intsT_snoc (l : List Int) (m : Int) : intsT (l ++ [m]) = .tup (l.map D.int ++ [.int m]) := by simp [intsT]
end VC

set_option Elab.async false
set_option linter.all false
set_option maxRecDepth 100000
set_option maxHeartbeats 4000000
/-! W_all: what each def does, printed by gen.py. -/
namespace VC
open PySem PySem.Spec PyProof.Rows L2
def wf_is_from : WS :=
  (wRet (vAnd (wIsi isInt (oV 0)) (vAnd (vNot (wIsi isBl (oV 0))) (wCh opLe opLe (oV 1) (oV 0) (oV 2)))))

def wf_is_stage_of (sp_is_from : FSpec) : WS :=
  (wSeq (wIfS (wOr (wNot (wTst (wIsi isTup (oV 1)))) (wOr (wTst (wB opLt (oE (wCB opLenX (wUC (oV 1) wA0))) (oE (wC (.int 2))))) (wNot (wTst (wIsi isStr (oE (wB opIxX (oV 1) (oE (wC (.int 0))))))))))
  (wRet (wC (.bl false)))
  wNil)
  (wSeq (wIfS (wTst (wB (opEq false) (oE (wB opIxX (oV 1) (oE (wC (.int 0))))) (oE (wC (.str "hold")))))
  (wRet (vAnd (wB (opEq false) (oE (wCB opLenX (wUC (oV 1) wA0))) (oE (wC (.int 2)))) (wCall 3 sp_is_from (wAC (wB opIxX (oV 1) (oE (wC (.int 1)))) (wAC (wC (.int 1)) (wAC (wC (.int 2)) wA0))))))
  wNil)
  (wSeq (wIfS (wTst (wB (opEq true) (oE (wCB opLenX (wUC (oV 1) wA0))) (oE (wC (.int 3)))))
  (wRet (wC (.bl false)))
  wNil)
  (wSeq (wIfS (wTst (wB (opEq false) (oE (wB opIxX (oV 1) (oE (wC (.int 0))))) (oE (wC (.str "slew")))))
  (wRet (vAnd (wCall 3 sp_is_from (wAC (wB opIxX (oV 1) (oE (wC (.int 1)))) (wAC (wC (.int 0)) (wAC (wC (.int 5)) wA0)))) (wCall 3 sp_is_from (wAC (wB opIxX (oV 1) (oE (wC (.int 2)))) (wAC (wC (.int 0)) (wAC (wC (.int 5)) wA0))))))
  wNil)
  (wSeq (wIfS (wTst (wB (opInX false) (oE (wB opIxX (oV 1) (oE (wC (.int 0))))) (oE (wTup (wAC (wC (.str "clip")) (wAC (wC (.str "gate")) wA0))))))
  (wRet (vAnd (wCall 3 sp_is_from (wAC (wB opIxX (oV 1) (oE (wC (.int 1)))) (wAC (wC (.int 0)) (wAC (wV 0) wA0)))) (wCall 3 sp_is_from (wAC (wB opIxX (oV 1) (oE (wC (.int 2)))) (wAC (wB opIxX (oV 1) (oE (wC (.int 1)))) (wAC (wV 0) wA0))))))
  wNil)
  (wRet (wC (.bl false))))))))

def wf_keeping : WS :=
  (wRet (wCB opLenX (wUC (oE (wLc [1] (iW (wV 0)) (gN 1) (wTst (wB (opEq true) (oE (wB opIxX (oV 1) (oE (wC (.int 0))))) (oE (wC (.str "clip"))))) (wV 1))) wA0)))

def wf_is_chain_of (sp_is_stage_of : FSpec) (sp_keeping : FSpec) (sp_is_from : FSpec) : WS :=
  (wSeq (wIfS (wOr (wNot (wTst (wIsi isTup (oV 0)))) (wOr (wTst (wB (opEq true) (oE (wCB opLenX (wUC (oV 0) wA0))) (oE (wC (.int 3))))) (wNot (wTst (wCall 3 sp_is_from (wAC (wB opIxX (oV 0) (oE (wC (.int 0)))) (wAC (wC (.int 1)) (wAC (wC (.int 5)) wA0))))))))
  (wRet (wC (.bl false)))
  wNil)
  (wSeq (wAsg (wV 0) (gT (gCs (gN 1) (gCs (gN 2) (gCs (gN 3) gNl)))))
  (wSeq (wIfS (wOr (wNot (wTst (wCall 3 sp_is_from (wAC (wV 2) (wAC (wC (.int 0)) (wAC (wV 1) wA0)))))) (wOr (wNot (wTst (wIsi isTup (oV 3)))) (wTst (wB opGt (oE (wCB opLenX (wUC (oV 3) wA0))) (oE (wC (.int 3)))))))
  (wRet (wC (.bl false)))
  wNil)
  (wRet (vAnd (wCB opAll (wUC (oE (wLc [4] (iW (wV 3)) (gN 4) wYes (wCall 2 sp_is_stage_of (wAC (wV 1) (wAC (wV 4) wA0))))) wA0)) (wB opLe (oE (wCall 1 sp_keeping (wAC (wV 3) wA0))) (oE (wC (.int 2)))))))))

def wf_is_chain (sp_is_chain_of : FSpec) : WS :=
  (wRet (wCall 1 sp_is_chain_of (wAC (wV 0) wA0)))

def wf_law_deck : WS :=
  (wSeq (wIfS (wTst (wB opGe (oV 0) (oE (wB opPow (oE (wC (.int 10))) (oE (wC (.int 18)))))))
  (wRet (wLst (wAC (wB opSub (oV 0) (oE (wB opPow (oE (wC (.int 10))) (oE (wC (.int 18)))))) (wAC (wB opMod (oE (wCB opInt1 (wUC (oV 0) wA0))) (oE (wC (.int 2147483579)))) (wAC (wV 1) wA0)))))
  wNil)
  (wRet (wLst (wAC (wC (.int 0)) (wAC (wB opMod (oE (wCB opInt1 (wUC (oV 0) wA0))) (oE (wC (.int 2147483579)))) (wAC (wV 1) wA0))))))

def wf_law_pick : WS :=
  (wSeq (wIfS (wTst (wB opGt (oE (wB opIxX (oV 0) (oE (wC (.int 0))))) (oE (wC (.int 1)))))
  (wSeq (wSet 2 (wB opMod (oE (wCB opInt1 (wUC (oE (wB opIxX (oV 0) (oE (wC (.int 0))))) wA0))) (oV 1)))
  (wSeq (wSetX 0 (wB opDiv (oE (wB opIxX (oV 0) (oE (wC (.int 0))))) (oV 1)) (oE (wC (.int 0))))
  (wRet (wMv 2))))
  wNil)
  (wSeq (wSetX 0 (wB opAdd (oE (wB opIxX (oV 0) (oE (wC (.int 2))))) (oE (wC (.int 1)))) (oE (wC (.int 2))))
  (wSeq (wSet 3 (wB opMod (oE (wCB opInt1 (wUC (oE (wB opPow (oE (wCB opInt1 (wUC (oE (wB opAdd (oE (wB opIxX (oV 0) (oE (wC (.int 1))))) (oE (wB opMul (oE (wC (.int 15485867))) (oE (wB opIxX (oV 0) (oE (wC (.int 2))))))))) wA0))) (oE (wC (.int 5))))) wA0))) (oE (wC (.int 2147483647)))))
  (wSeq (wSet 2 (wB opDiv (oE (wB opMod (oE (wCB opInt1 (wUC (oE (wB opPow (oE (wCB opInt1 (wUC (oE (wB opAdd (oV 3) (oE (wB opMul (oE (wC (.int 7919))) (oE (wB opIxX (oV 0) (oE (wC (.int 2))))))))) wA0))) (oE (wC (.int 3))))) wA0))) (oE (wC (.int 2147483629))))) (oE (wC (.int 32)))))
  (wRet (wB opMod (oE (wCB opInt1 (wUC (oV 2) wA0))) (oV 1)))))))

def wf_law_one (sp__law_pick : FSpec) : WS :=
  (wRet (wB opIxX (oV 1) (oE (wCall 2 sp__law_pick (wAC (wV 0) (wAC (wCB opLenX (wUC (oV 1) wA0)) wA0))))))

def wf_law_whole : WS :=
  (wRet (vAnd (wIsi isInt (oV 0)) (vNot (wIsi isBl (oV 0)))))

def wf_law_stage (sp__law_pick : FSpec) : WS :=
  (wSeq (wSet 3 (wCall 2 sp__law_pick (wAC (wV 0) (wAC (wB opAdd (oV 1) (oE (wC (.int 1)))) wA0))))
  (wSeq (wSet 4 (wB opAdd (oV 3) (oE (wCall 2 sp__law_pick (wAC (wV 0) (wAC (wB opSub (oE (wB opAdd (oV 1) (oE (wC (.int 1))))) (oV 3)) wA0))))))
  (wSeq (wIfS (wOr (wTst (wV 2)) (wTst (wB (opEq false) (oE (wCall 2 sp__law_pick (wAC (wV 0) (wAC (wC (.int 4)) wA0)))) (oE (wC (.int 0))))))
  (wRet (wTup (wAC (wC (.str "clip")) (wAC (wV 3) (wAC (wV 4) wA0)))))
  wNil)
  (wSeq (wSet 5 (wCall 2 sp__law_pick (wAC (wV 0) (wAC (wC (.int 5)) wA0))))
  (wSeq (wIfS (wTst (wB (opEq false) (oV 5) (oE (wC (.int 0)))))
  (wRet (wTup (wAC (wC (.str "gate")) (wAC (wV 3) (wAC (wV 4) wA0)))))
  wNil)
  (wSeq (wIfS (wTst (wB (opEq false) (oV 5) (oE (wC (.int 1)))))
  (wRet (wTup (wAC (wC (.str "hold")) (wAC (wB opAdd (oE (wC (.int 1))) (oE (wCall 2 sp__law_pick (wAC (wV 0) (wAC (wC (.int 2)) wA0))))) wA0))))
  wNil)
  (wRet (wTup (wAC (wC (.str "slew")) (wAC (wCall 2 sp__law_pick (wAC (wV 0) (wAC (wCB opMin2 (wUC (oE (wC (.int 6))) (wUC (oE (wB opAdd (oV 1) (oE (wC (.int 2))))) wA0))) wA0))) (wAC (wCall 2 sp__law_pick (wAC (wV 0) (wAC (wCB opMin2 (wUC (oE (wC (.int 6))) (wUC (oE (wB opAdd (oV 1) (oE (wC (.int 2))))) wA0))) wA0))) wA0)))))))))))

def wf_law_chain (sp__law_pick : FSpec) (sp__law_stage : FSpec) : WS :=
  (wSeq (wPr3 3 4 5 (wLC (wB opAdd (oE (wC (.int 1))) (oE (wCall 2 sp__law_pick (wAC (wV 0) (wAC (wV 1) wA0))))) (wLC (wTup wA0) (wLC (wC (.int 0)) wL0))))
  (wSeq (wFor (iR1 (wAC (wCall 2 sp__law_pick (wAC (wV 0) (wAC (wB opAdd (oV 2) (oE (wC (.int 1)))) wA0))) wA0)) (gN 6)
  (wSeq (wSet 7 (wCall 3 sp__law_stage (wAC (wV 0) (wAC (wV 3) (wAC (wB (opEq false) (oV 5) (oE (wC (.int 2)))) wA0)))))
  (wSeq (wSet 5 (wB opAdd (oV 5) (oE (wIf (wTst (wB (opEq false) (oE (wB opIxX (oV 7) (oE (wC (.int 0))))) (oE (wC (.str "clip"))))) (wC (.int 0)) (wC (.int 1))))))
  (wSet 4 (wB opAdd (oV 4) (oE (wTup (wAC (wV 7) wA0))))))))
  (wRet (wTup (wAC (wV 3) (wAC (wCall 2 sp__law_pick (wAC (wV 0) (wAC (wB opAdd (oV 3) (oE (wC (.int 1)))) wA0))) (wAC (wV 4) wA0)))))))

def wf_law_levels (sp__law_pick : FSpec) : WS :=
  (wRet (wCB opTuple (wUC (oE (wLc [3] (iR1 (wAC (wCall 2 sp__law_pick (wAC (wV 0) (wAC (wB opAdd (oV 2) (oE (wC (.int 1)))) wA0))) wA0)) (gN 3) wYes (wCall 2 sp__law_pick (wAC (wV 0) (wAC (wB opAdd (oV 1) (oE (wC (.int 1)))) wA0))))) wA0)))

def wf_law_is_stage (sp__law_whole : FSpec) : WS :=
  (wSeq (wIfS (wOr (wNot (wTst (wIsi isTup (oV 1)))) (wOr (wTst (wB (opInX true) (oE (wCB opLenX (wUC (oV 1) wA0))) (oE (wTup (wAC (wC (.int 2)) (wAC (wC (.int 3)) wA0)))))) (wNot (wTst (wIsi isStr (oE (wB opIxX (oV 1) (oE (wC (.int 0))))))))))
  (wRet (wC (.bl false)))
  wNil)
  (wSeq (wIfS (wTst (wB (opEq true) (oE (wLc [2] (iW (wSl (oV 1) (pS (wC (.int 1))) pN)) (gN 2) (wNot (wTst (wCall 1 sp__law_whole (wAC (wV 2) wA0)))) (wC (.int 1)))) (oE (wLst wA0))))
  (wRet (wC (.bl false)))
  wNil)
  (wSeq (wIfS (wTst (wB (opEq false) (oE (wB opIxX (oV 1) (oE (wC (.int 0))))) (oE (wC (.str "hold")))))
  (wRet (vAnd (wB (opEq false) (oE (wCB opLenX (wUC (oV 1) wA0))) (oE (wC (.int 2)))) (wB (opInX false) (oE (wB opIxX (oV 1) (oE (wC (.int 1))))) (oE (wTup (wAC (wC (.int 1)) (wAC (wC (.int 2)) wA0)))))))
  wNil)
  (wSeq (wIfS (wTst (wB (opEq false) (oE (wCB opLenX (wUC (oV 1) wA0))) (oE (wC (.int 2)))))
  (wRet (wC (.bl false)))
  wNil)
  (wSeq (wIfS (wTst (wB (opEq false) (oE (wB opIxX (oV 1) (oE (wC (.int 0))))) (oE (wC (.str "slew")))))
  (wRet (vAnd (wCh opLe opLe (oE (wC (.int 0))) (oE (wB opIxX (oV 1) (oE (wC (.int 1))))) (oE (wC (.int 5)))) (wCh opLe opLe (oE (wC (.int 0))) (oE (wB opIxX (oV 1) (oE (wC (.int 2))))) (oE (wC (.int 5))))))
  wNil)
  (wRet (vAnd (wB (opInX false) (oE (wB opIxX (oV 1) (oE (wC (.int 0))))) (oE (wTup (wAC (wC (.str "clip")) (wAC (wC (.str "gate")) wA0))))) (wCh3 opLe opLe opLe (oE (wC (.int 0))) (oE (wB opIxX (oV 1) (oE (wC (.int 1))))) (oE (wB opIxX (oV 1) (oE (wC (.int 2))))) (oV 0)))))))))

def wf_law_is (sp__law_is_stage : FSpec) (sp__law_whole : FSpec) : WS :=
  (wSeq (wIfS (wOr (wNot (wTst (wIsi isTup (oV 0)))) (wTst (wB (opEq true) (oE (wCB opLenX (wUC (oV 0) wA0))) (oE (wC (.int 3))))))
  (wRet (wC (.bl false)))
  wNil)
  (wSeq (wAsg (wV 0) (gT (gCs (gN 1) (gCs (gN 2) (gCs (gN 3) gNl)))))
  (wSeq (wIfS (wOr (wNot (wTst (wCall 1 sp__law_whole (wAC (wV 1) wA0)))) (wOr (wNot (wTst (wCall 1 sp__law_whole (wAC (wV 2) wA0)))) (wOr (wNot (wTst (wCh opLe opLe (oE (wC (.int 1))) (oV 1) (oE (wC (.int 5)))))) (wNot (wTst (wCh opLe opLe (oE (wC (.int 0))) (oV 2) (oV 1)))))))
  (wRet (wC (.bl false)))
  wNil)
  (wSeq (wIfS (wOr (wNot (wTst (wIsi isTup (oV 3)))) (wTst (wB opGt (oE (wCB opLenX (wUC (oV 3) wA0))) (oE (wC (.int 3))))))
  (wRet (wC (.bl false)))
  wNil)
  (wSeq (wIfS (wTst (wB (opEq true) (oE (wLc [4] (iW (wV 3)) (gN 4) (wNot (wTst (wCall 2 sp__law_is_stage (wAC (wV 1) (wAC (wV 4) wA0))))) (wC (.int 1)))) (oE (wLst wA0))))
  (wRet (wC (.bl false)))
  wNil)
  (wRet (wB opLe (oE (wCB opLenX (wUC (oE (wLc [4] (iW (wV 3)) (gN 4) (wTst (wB (opEq true) (oE (wB opIxX (oV 4) (oE (wC (.int 0))))) (oE (wC (.str "clip"))))) (wC (.int 1)))) wA0))) (oE (wC (.int 2))))))))))

def wf_law_changed (sp__law_pick : FSpec) (sp__law_one : FSpec) (sp__law_changed : FSpec) : WS :=
  (wSeq (wIfS (wAnd (wTst (wIsi isTup (oV 1))) (wAnd (wTst (wB (opEq true) (oV 1) (oE (wTup wA0)))) (wTst (wB opGt (oE (wCall 2 sp__law_pick (wAC (wV 0) (wAC (wC (.int 6)) wA0)))) (oE (wC (.int 0)))))))
  (wSeq (wPr2 2 3 (wLC (wCall 2 sp__law_pick (wAC (wV 0) (wAC (wCB opLenX (wUC (oV 1) wA0)) wA0))) (wLC (wCall 2 sp__law_pick (wAC (wV 0) (wAC (wC (.int 9)) wA0))) wL0)))
  (wSeq (wIfS (wTst (wB (opEq false) (oV 3) (oE (wC (.int 0)))))
  (wRet (wB opAdd (oE (wSl (oV 1) pN (pS (wV 2)))) (oE (wSl (oV 1) (pS (wB opAdd (oV 2) (oE (wC (.int 1))))) pN))))
  wNil)
  (wSeq (wIfS (wTst (wB (opEq false) (oV 3) (oE (wC (.int 1)))))
  (wRet (wB opAdd (oE (wSl (oV 1) pN (pS (wB opAdd (oV 2) (oE (wC (.int 1))))))) (oE (wSl (oV 1) (pS (wV 2)) pN))))
  wNil)
  (wRet (wB opAdd (oE (wB opAdd (oE (wSl (oV 1) pN (pS (wV 2)))) (oE (wTup (wAC (wCall 2 sp__law_changed (wAC (wV 0) (wAC (wB opIxX (oV 1) (oV 2)) wA0))) wA0))))) (oE (wSl (oV 1) (pS (wB opAdd (oV 2) (oE (wC (.int 1))))) pN)))))))
  wNil)
  (wSeq (wSet 4 (wLst (wAC (wC .non) (wAC (wC (.bl true)) (wAC (wC (.bl false)) (wAC (wC (.int 0)) (wAC (wC (.int 1)) (wAC (wC (.int 2)) (wAC (wC (.int 3)) (wAC (wC (.int 5)) (wAC (wC (.int 6)) (wAC (wC (.int (-1))) (wAC (wC (.str "hold")) (wAC (wC (.str "slew")) (wAC (wC (.str "gate")) (wAC (wC (.str "clip")) (wAC (wC (.str "x")) (wAC (wTup wA0) (wAC (wLst wA0) (wAC (wB opPow (oE (wC (.int 10))) (oE (wC (.int 30)))) wA0))))))))))))))))))))
  (wSeq (wIfS (wAnd (wTst (wIsi isInt (oV 1))) (wTst (wB (opEq false) (oE (wCall 2 sp__law_pick (wAC (wV 0) (wAC (wC (.int 2)) wA0)))) (oE (wC (.int 0))))))
  (wRet (wB opAdd (oV 1) (oE (wCall 2 sp__law_one (wAC (wV 0) (wAC (wLst (wAC (wC (.int 1)) (wAC (wC (.int (-1))) wA0))) wA0))))))
  wNil)
  (wRet (wIf (wAnd (wTst (wIsi isTup (oV 1))) (wTst (wB (opEq false) (oE (wCall 2 sp__law_pick (wAC (wV 0) (wAC (wC (.int 3)) wA0)))) (oE (wC (.int 0)))))) (wCB opListX (wUC (oV 1) wA0)) (wCall 2 sp__law_one (wAC (wV 0) (wAC (wV 4) wA0))))))))

def wf_law_k01 (sp_is_chain : FSpec) (sp__law_is : FSpec) (sp__law_pick : FSpec) (sp__law_changed : FSpec) (sp__law_chain : FSpec) (sp__law_deck : FSpec) : WS :=
  (wSeq (wFor (iR1 (wAC (wC (.int 8)) wA0)) (gN 1)
  (wSeq (wPub 2 (wCall 2 sp__law_deck (wAC (wB opIxX (oE (wB opAdd (oV 0) (oE (wB opMul (oE (wLst (wAC (wC (.int 0)) wA0))) (oE (wC (.int 8))))))) (oV 1)) (wAC (wV 1) wA0))))
  (wFor (iR1 (wAC (wC (.int 12)) wA0)) (gN 3)
  (wSeq (wSet 4 (wCall 3 sp__law_chain (wAC (wV 2) (wAC (wC (.int 5)) (wAC (wC (.int 3)) wA0)))))
  (wSeq (wIfS (wTst (wB (opIs true) (oE (wCall 1 sp_is_chain (wAC (wV 4) wA0))) (oE (wC (.bl true)))))
  (wRet (wC (.bl false)))
  wNil)
  (wSeq (wSet 5 (wCall 2 sp__law_changed (wAC (wV 2) (wAC (wV 4) wA0))))
  (wSeq (wIfS (wTst (wB (opEq false) (oE (wCall 2 sp__law_pick (wAC (wV 2) (wAC (wC (.int 3)) wA0)))) (oE (wC (.int 0)))))
  (wSet 5 (wCall 2 sp__law_changed (wAC (wV 2) (wAC (wV 5) wA0))))
  wNil)
  (wSeq (wSet 6 (wCall 1 sp_is_chain (wAC (wV 5) wA0)))
  (wIfS (wOr (wNot (wTst (wIsi isBl (oV 6)))) (wTst (wB (opEq true) (oV 6) (oE (wCall 1 sp__law_is (wAC (wV 5) wA0))))))
  (wRet (wC (.bl false)))
  wNil)))))))))
  (wSeq (wPr2 7 8 (wLC (wTup (wAC (wC (.str "slew")) (wAC (wC (.int 5)) (wAC (wC (.int 0)) wA0)))) (wLC (wTup (wAC (wC (.str "clip")) (wAC (wC (.int 0)) (wAC (wC (.int 1)) wA0)))) wL0)))
  (wSeq (wIfS (wOr (wTst (wB (opIs true) (oE (wCall 1 sp_is_chain (wAC (wTup (wAC (wC (.int 1)) (wAC (wC (.int 1)) (wAC (wTup (wAC (wV 7) (wAC (wV 8) (wAC (wTup (wAC (wC (.str "hold")) (wAC (wC (.int 2)) wA0))) wA0)))) wA0)))) wA0))) (oE (wC (.bl true))))) (wTst (wB (opIs true) (oE (wCall 1 sp_is_chain (wAC (wTup (wAC (wC (.int 1)) (wAC (wC (.int 0)) (wAC (wTup (wAC (wV 7) (wAC (wV 7) (wAC (wV 7) wA0)))) wA0)))) wA0))) (oE (wC (.bl false))))))
  (wRet (wC (.bl false)))
  wNil)
  (wSeq (wIfS (wOr (wTst (wB (opIs true) (oE (wCall 1 sp_is_chain (wAC (wTup (wAC (wC (.int 6)) (wAC (wC (.int 0)) (wAC (wTup wA0) wA0)))) wA0))) (oE (wC (.bl false))))) (wTst (wB (opIs true) (oE (wCall 1 sp_is_chain (wAC (wTup (wAC (wC (.int 5)) (wAC (wC (.int 5)) (wAC (wB opMul (oE (wTup (wAC (wV 8) wA0))) (oE (wC (.int 3)))) wA0)))) wA0))) (oE (wC (.bl true))))))
  (wRet (wC (.bl false)))
  wNil)
  (wRet (vAnd (wB (opIs false) (oE (wCall 1 sp_is_chain (wAC (wTup (wAC (wC (.int 5)) (wAC (wC (.int 0)) (wAC (wB opMul (oE (wTup (wAC (wV 8) wA0))) (oE (wC (.int 4)))) wA0)))) wA0))) (oE (wC (.bl false)))) (wB (opIs false) (oE (wCall 1 sp_is_chain (wAC (wTup (wAC (wC (.int 2)) (wAC (wC (.int 0)) (wAC (wTup (wAC (wTup (wAC (wC (.str "gate")) (wAC (wC (.int 2)) (wAC (wC (.int 1)) wA0)))) wA0)) wA0)))) wA0))) (oE (wC (.bl false))))))))))

def wf_need_chain (sp_is_chain_of : FSpec) : WS :=
  (wIfS (wNot (wTst (wCall 1 sp_is_chain_of (wAC (wV 0) wA0))))
  wNev
  wNil)

def wf_are_levels (sp_is_from : FSpec) : WS :=
  (wRet (vAnd (wIsi isTup (oV 1)) (vAnd (wB opLe (oE (wCB opLenX (wUC (oV 1) wA0))) (oV 2)) (wCB opAll (wUC (oE (wLc [3] (iW (wV 1)) (gN 3) wYes (wCall 3 sp_is_from (wAC (wV 3) (wAC (wC (.int 0)) (wAC (wV 0) wA0)))))) wA0)))))

def wf_need_signal (sp_are_levels_2 : FSpec) : WS :=
  (wIfS (wNot (wTst (wCall 2 sp_are_levels_2 (wAC (wB opIxX (oV 0) (oE (wC (.int 0)))) (wAC (wV 1) wA0)))))
  wNev
  wNil)

def wf_between : WS :=
  (wRet (wCB opMin2 (wUC (oE (wCB opMax2 (wUC (oV 0) (wUC (oV 1) wA0)))) (wUC (oV 2) wA0))))

def wf_first_of (sp_between : FSpec) : WS :=
  (wSeq (wIfS (wTst (wB (opEq false) (oE (wB opIxX (oV 0) (oE (wC (.int 0))))) (oE (wC (.str "slew")))))
  (wRet (wTup (wAC (wV 1) (wAC (wV 1) wA0))))
  wNil)
  (wSeq (wIfS (wTst (wB (opEq false) (oE (wB opIxX (oV 0) (oE (wC (.int 0))))) (oE (wC (.str "clip")))))
  (wRet (wTup (wAC (wCall 3 sp_between (wAC (wV 1) (wAC (wB opIxX (oV 0) (oE (wC (.int 1)))) (wAC (wB opIxX (oV 0) (oE (wC (.int 2)))) wA0)))) (wAC (wC (.int 0)) wA0))))
  wNil)
  (wSeq (wIfS (wTst (wB (opEq false) (oE (wB opIxX (oV 0) (oE (wC (.int 0))))) (oE (wC (.str "gate")))))
  (wSeq (wSet 2 (wCB opInt1 (wUC (oE (wB opGe (oV 1) (oE (wB opIxX (oV 0) (oE (wC (.int 2))))))) wA0)))
  (wRet (wTup (wAC (wB opMul (oV 1) (oV 2)) (wAC (wV 2) wA0)))))
  wNil)
  (wRet (wTup (wAC (wV 1) (wAC (wTup (wAC (wV 1) (wAC (wC (.int 0)) wA0))) wA0)))))))

def wf_first_state (sp_first_of : FSpec) : WS :=
  (wSeq (wPr2 1 2 (wLC (wB opIxX (oV 0) (oE (wC (.int 1)))) (wLC (wTup wA0) wL0)))
  (wSeq (wFor (iW (wB opIxX (oV 0) (oE (wC (.int 2))))) (gN 3)
  (wSeq (wAsg (wCall 2 sp_first_of (wAC (wV 3) (wAC (wV 1) wA0))) (gT (gCs (gN 1) (gCs (gN 4) gNl))))
  (wSet 2 (wB opAdd (oV 2) (oE (wTup (wAC (wV 4) wA0)))))))
  (wRet (wMv 2))))

def wf_moved (sp_between : FSpec) : WS :=
  (wSeq (wIfS (wTst (wB (opEq false) (oE (wB opIxX (oV 0) (oE (wC (.int 0))))) (oE (wC (.str "slew")))))
  (wSeq (wSet 3 (wCall 3 sp_between (wAC (wV 2) (wAC (wB opSub (oV 1) (oE (wB opIxX (oV 0) (oE (wC (.int 2)))))) (wAC (wB opAdd (oV 1) (oE (wB opIxX (oV 0) (oE (wC (.int 1)))))) wA0)))))
  (wRet (wTup (wAC (wV 3) (wAC (wV 3) wA0)))))
  wNil)
  (wSeq (wIfS (wTst (wB (opEq false) (oE (wB opIxX (oV 0) (oE (wC (.int 0))))) (oE (wC (.str "clip")))))
  (wRet (wTup (wAC (wCall 3 sp_between (wAC (wV 2) (wAC (wB opIxX (oV 0) (oE (wC (.int 1)))) (wAC (wB opIxX (oV 0) (oE (wC (.int 2)))) wA0)))) (wAC (wC (.int 0)) wA0))))
  wNil)
  (wSeq (wIfS (wTst (wB (opEq false) (oE (wB opIxX (oV 0) (oE (wC (.int 0))))) (oE (wC (.str "gate")))))
  (wSeq (wSet 4 (wCB opInt1 (wUC (oE (wB opGe (oV 2) (oE (wB opIxX (oV 0) (oE (wIf (wTst (wB (opEq false) (oV 1) (oE (wC (.int 1))))) (wC (.int 1)) (wC (.int 2)))))))) wA0)))
  (wRet (wTup (wAC (wB opMul (oV 2) (oV 4)) (wAC (wV 4) wA0)))))
  wNil)
  (wSeq (wAsg (wV 1) (gT (gCs (gN 3) (gCs (gN 5) gNl))))
  (wSeq (wIfS (wTst (wB opGt (oV 5) (oE (wC (.int 0)))))
  (wRet (wTup (wAC (wV 3) (wAC (wTup (wAC (wV 3) (wAC (wB opSub (oV 5) (oE (wC (.int 1)))) wA0))) wA0))))
  wNil)
  (wRet (wTup (wAC (wV 2) (wAC (wTup (wAC (wV 2) (wAC (wIf (wTst (wB (opEq true) (oV 2) (oV 3))) (wB opIxX (oV 0) (oE (wC (.int 1)))) (wC (.int 0))) wA0))) wA0)))))))))

def wf_step (sp_moved : FSpec) : WS :=
  (wSeq (wSet 3 (wTup wA0))
  (wSeq (wFor (iZp (wAC (wV 0) (wAC (wV 1) wA0))) (gT (gCs (gN 4) (gCs (gN 5) gNl)))
  (wSeq (wAsg (wCall 3 sp_moved (wAC (wV 4) (wAC (wV 5) (wAC (wV 2) wA0)))) (gT (gCs (gN 2) (gCs (gN 6) gNl))))
  (wSet 3 (wB opAdd (oV 3) (oE (wTup (wAC (wV 6) wA0)))))))
  (wRet (wTup (wAC (wV 2) (wAC (wV 3) wA0))))))

def wf_run (sp_step : FSpec) : WS :=
  (wSeq (wSet 3 (wTup wA0))
  (wSeq (wFor (iW (wV 2)) (gN 4)
  (wSeq (wAsg (wCall 3 sp_step (wAC (wV 0) (wAC (wV 1) (wAC (wV 4) wA0)))) (gT (gCs (gN 5) (gCs (gN 1) gNl))))
  (wSet 3 (wB opAdd (oV 3) (oE (wTup (wAC (wV 5) wA0)))))))
  (wRet (wTup (wAC (wV 3) (wAC (wV 1) wA0))))))

def wf_output (sp_run : FSpec) (sp_first_state : FSpec) (sp_need_signal : FSpec) (sp_need_chain : FSpec) : WS :=
  (wSeq (wDrop (wCall 1 sp_need_chain (wAC (wV 0) wA0)))
  (wSeq (wDrop (wCall 2 sp_need_signal (wAC (wV 0) (wAC (wV 1) wA0))))
  (wRet (wB opIxX (oE (wCall 3 sp_run (wAC (wB opIxX (oV 0) (oE (wC (.int 2)))) (wAC (wCall 1 sp_first_state (wAC (wV 0) wA0)) (wAC (wV 1) wA0))))) (oE (wC (.int 0)))))))

def wf_state (sp_run : FSpec) (sp_first_state : FSpec) (sp_need_signal : FSpec) (sp_need_chain : FSpec) : WS :=
  (wSeq (wDrop (wCall 1 sp_need_chain (wAC (wV 0) wA0)))
  (wSeq (wDrop (wCall 2 sp_need_signal (wAC (wV 0) (wAC (wV 1) wA0))))
  (wRet (wB opIxX (oE (wCall 3 sp_run (wAC (wB opIxX (oV 0) (oE (wC (.int 2)))) (wAC (wCall 1 sp_first_state (wAC (wV 0) wA0)) (wAC (wV 1) wA0))))) (oE (wC (.int 1)))))))

def wf_passes (sp_output : FSpec) : WS :=
  (wRet (wB (opEq false) (oE (wCall 2 sp_output (wAC (wV 0) (wAC (wV 1) wA0)))) (oV 1)))

def wf_law_bool : WS :=
  (wRet (vAnd (wIsi isBl (oV 0)) (wB (opEq false) (oV 0) (oV 1))))

def wf_law_sort : WS :=
  (wSeq (wIfS (wTst (wIsi isBl (oV 0)))
  (wRet (wC (.int 1)))
  wNil)
  (wSeq (wIfS (wTst (wIsi isInt (oV 0)))
  (wRet (wC (.int 2)))
  wNil)
  (wSeq (wIfS (wTst (wIsi isStr (oV 0)))
  (wRet (wC (.int 3)))
  wNil)
  (wSeq (wIfS (wTst (wIsi isLst (oV 0)))
  (wRet (wC (.int 4)))
  wNil)
  (wRet (wIf (wTst (wIsi isTup (oV 0))) (wC (.int 5)) (wC (.int 6))))))))

def wf_law_same (sp__law_sort : FSpec) (sp__law_same : FSpec) : WS :=
  (wSeq (wIfS (wTst (wB (opEq true) (oE (wCall 1 sp__law_sort (wAC (wV 0) wA0))) (oE (wCall 1 sp__law_sort (wAC (wV 1) wA0)))))
  (wRet (wC (.bl false)))
  wNil)
  (wSeq (wIfS (wAnd (wTst (wB opGt (oE (wCall 1 sp__law_sort (wAC (wV 0) wA0))) (oE (wC (.int 3))))) (wTst (wB opLt (oE (wCall 1 sp__law_sort (wAC (wV 0) wA0))) (oE (wC (.int 6))))))
  (wSeq (wIfS (wTst (wB (opEq true) (oE (wCB opLenX (wUC (oV 0) wA0))) (oE (wCB opLenX (wUC (oV 1) wA0)))))
  (wRet (wC (.bl false)))
  wNil)
  (wRet (wB (opEq false) (oE (wLc [2, 3] (iEn (wAC (wV 0) wA0)) (gT (gCs (gN 2) (gCs (gN 3) gNl))) (wNot (wTst (wCall 2 sp__law_same (wAC (wV 3) (wAC (wB opIxX (oV 1) (oV 2)) wA0))))) (wV 2))) (oE (wLst wA0)))))
  wNil)
  (wRet (wB (opEq false) (oV 0) (oV 1)))))

def wf_law_first : WS :=
  (wSeq (wPr2 1 2 (wLC (wB opIxX (oV 0) (oE (wC (.int 1)))) (wLC (wLst wA0) wL0)))
  (wSeq (wFor (iW (wB opIxX (oV 0) (oE (wC (.int 2))))) (gN 3)
  (wIfS (wTst (wB (opEq false) (oE (wB opIxX (oV 3) (oE (wC (.int 0))))) (oE (wC (.str "clip")))))
  (wSeq (wSet 1 (wCB opMax2 (wUC (oE (wB opIxX (oV 3) (oE (wC (.int 1))))) (wUC (oE (wCB opMin2 (wUC (oE (wB opIxX (oV 3) (oE (wC (.int 2))))) (wUC (oV 1) wA0)))) wA0))))
  (wApp 2 (wC (.int 0))))
  (wIfS (wTst (wB (opEq false) (oE (wB opIxX (oV 3) (oE (wC (.int 0))))) (oE (wC (.str "gate")))))
  (wSeq (wApp 2 (wIf (wTst (wB opGe (oV 1) (oE (wB opIxX (oV 3) (oE (wC (.int 2))))))) (wC (.int 1)) (wC (.int 0))))
  (wSet 1 (wIf (wTst (wB opGe (oV 1) (oE (wB opIxX (oV 3) (oE (wC (.int 2))))))) (wV 1) (wC (.int 0)))))
  (wApp 2 (wIf (wTst (wB (opEq false) (oE (wB opIxX (oV 3) (oE (wC (.int 0))))) (oE (wC (.str "hold"))))) (wTup (wAC (wV 1) (wAC (wC (.int 0)) wA0))) (wV 1))))))
  (wRet (wCB opTuple (wUC (oV 2) wA0)))))

def wf_law_tick : WS :=
  (wSeq (wSet 3 (wLst wA0))
  (wSeq (wFor (iZp (wAC (wB opIxX (oV 0) (oE (wC (.int 2)))) (wAC (wV 1) wA0))) (gT (gCs (gN 4) (gCs (gN 5) gNl)))
  (wIfS (wTst (wB (opEq false) (oE (wB opIxX (oV 4) (oE (wC (.int 0))))) (oE (wC (.str "slew")))))
  (wSeq (wIfS (wTst (wB opGt (oV 2) (oE (wB opAdd (oV 5) (oE (wB opIxX (oV 4) (oE (wC (.int 1)))))))))
  (wSet 2 (wB opAdd (oV 5) (oE (wB opIxX (oV 4) (oE (wC (.int 1)))))))
  wNil)
  (wSeq (wIfS (wTst (wB opLt (oV 2) (oE (wB opSub (oV 5) (oE (wB opIxX (oV 4) (oE (wC (.int 2)))))))))
  (wSet 2 (wB opSub (oV 5) (oE (wB opIxX (oV 4) (oE (wC (.int 2)))))))
  wNil)
  (wApp 3 (wV 2))))
  (wIfS (wTst (wB (opEq false) (oE (wB opIxX (oV 4) (oE (wC (.int 0))))) (oE (wC (.str "clip")))))
  (wSeq (wSet 2 (wCB opMax2 (wUC (oE (wB opIxX (oV 4) (oE (wC (.int 1))))) (wUC (oE (wCB opMin2 (wUC (oE (wB opIxX (oV 4) (oE (wC (.int 2))))) (wUC (oV 2) wA0)))) wA0))))
  (wApp 3 (wC (.int 0))))
  (wIfS (wTst (wB (opEq false) (oE (wB opIxX (oV 4) (oE (wC (.int 0))))) (oE (wC (.str "gate")))))
  (wSeq (wIfS (wAnd (wTst (wB (opEq false) (oV 5) (oE (wC (.int 1))))) (wTst (wB opLt (oV 2) (oE (wB opIxX (oV 4) (oE (wC (.int 1))))))))
  (wSet 5 (wC (.int 0)))
  (wIfS (wAnd (wTst (wB (opEq false) (oV 5) (oE (wC (.int 0))))) (wTst (wB opGe (oV 2) (oE (wB opIxX (oV 4) (oE (wC (.int 2))))))))
  (wSet 5 (wC (.int 1)))
  wNil))
  (wSeq (wSet 2 (wIf (wTst (wB (opEq false) (oV 5) (oE (wC (.int 1))))) (wV 2) (wC (.int 0))))
  (wApp 3 (wV 5))))
  (wIfS (wTst (wB opGt (oE (wB opIxX (oV 5) (oE (wC (.int 1))))) (oE (wC (.int 0)))))
  (wSeq (wSet 2 (wB opIxX (oV 5) (oE (wC (.int 0)))))
  (wApp 3 (wTup (wAC (wV 2) (wAC (wB opSub (oE (wB opIxX (oV 5) (oE (wC (.int 1))))) (oE (wC (.int 1)))) wA0)))))
  (wApp 3 (wTup (wAC (wV 2) (wAC (wIf (wTst (wB (opEq false) (oV 2) (oE (wB opIxX (oV 5) (oE (wC (.int 0))))))) (wC (.int 0)) (wB opIxX (oV 4) (oE (wC (.int 1))))) wA0)))))))))
  (wRet (wTup (wAC (wV 2) (wAC (wCB opTuple (wUC (oV 3) wA0)) wA0))))))

def wf_law_ran (sp__law_tick : FSpec) : WS :=
  (wSeq (wSet 3 (wTup wA0))
  (wSeq (wFor (iW (wV 2)) (gN 4)
  (wSeq (wAsg (wCall 3 sp__law_tick (wAC (wV 0) (wAC (wV 1) (wAC (wV 4) wA0)))) (gT (gCs (gN 5) (gCs (gN 1) gNl))))
  (wSet 3 (wB opAdd (oV 3) (oE (wTup (wAC (wV 5) wA0)))))))
  (wRet (wTup (wAC (wV 3) (wAC (wV 1) wA0))))))

def wf_law_outs (sp__law_ran : FSpec) (sp__law_first : FSpec) : WS :=
  (wRet (wB opIxX (oE (wCall 3 sp__law_ran (wAC (wV 0) (wAC (wCall 1 sp__law_first (wAC (wV 0) wA0)) (wAC (wV 1) wA0))))) (oE (wC (.int 0)))))

def wf_law_k02 (sp_output : FSpec) (sp_state : FSpec) (sp__law_same : FSpec) (sp__law_first : FSpec) (sp__law_bool : FSpec) (sp_passes : FSpec) (sp__law_ran : FSpec) (sp__law_levels : FSpec) (sp__law_pick : FSpec) (sp__law_chain : FSpec) (sp__law_deck : FSpec) : WS :=
  (wSeq (wFor (iR1 (wAC (wC (.int 8)) wA0)) (gN 1)
  (wSeq (wPub 2 (wCall 2 sp__law_deck (wAC (wB opIxX (oE (wB opAdd (oV 0) (oE (wB opMul (oE (wLst (wAC (wC (.int 0)) wA0))) (oE (wC (.int 8))))))) (oV 1)) (wAC (wV 1) wA0))))
  (wFor (iR1 (wAC (wC (.int 10)) wA0)) (gN 3)
  (wSeq (wSet 4 (wCall 3 sp__law_chain (wAC (wV 2) (wAC (wC (.int 5)) (wAC (wC (.int 3)) wA0)))))
  (wSeq (wSet 5 (wCall 3 sp__law_levels (wAC (wV 2) (wAC (wB opIxX (oV 4) (oE (wC (.int 0)))) (wAC (wB opIxX (oE (wLst (wAC (wC (.int 5)) (wAC (wC (.int 40)) wA0)))) (oE (wCall 2 sp__law_pick (wAC (wV 2) (wAC (wC (.int 2)) wA0))))) wA0)))))
  (wSeq (wAsg (wCall 3 sp__law_ran (wAC (wV 4) (wAC (wCall 1 sp__law_first (wAC (wV 4) wA0)) (wAC (wV 5) wA0)))) (gT (gCs (gN 6) (gCs (gN 7) gNl))))
  (wSeq (wIfS (wOr (wNot (wTst (wCall 2 sp__law_same (wAC (wCall 2 sp_output (wAC (wV 4) (wAC (wV 5) wA0))) (wAC (wV 6) wA0))))) (wNot (wTst (wCall 2 sp__law_same (wAC (wCall 2 sp_state (wAC (wV 4) (wAC (wV 5) wA0))) (wAC (wV 7) wA0))))))
  (wRet (wC (.bl false)))
  wNil)
  (wSeq (wIfS (wOr (wNot (wTst (wCall 2 sp__law_bool (wAC (wCall 2 sp_passes (wAC (wV 4) (wAC (wV 5) wA0))) (wAC (wB (opEq false) (oV 6) (oV 5)) wA0))))) (wTst (wB (opIs true) (oE (wCall 2 sp_passes (wAC (wV 4) (wAC (wTup wA0) wA0)))) (oE (wC (.bl true))))))
  (wRet (wC (.bl false)))
  wNil)
  (wIfS (wNot (wTst (wCall 2 sp__law_same (wAC (wCall 2 sp_state (wAC (wV 4) (wAC (wTup wA0) wA0))) (wAC (wCall 1 sp__law_first (wAC (wV 4) wA0)) wA0)))))
  (wRet (wC (.bl false)))
  wNil)))))))))
  (wSeq (wSet 8 (wTup (wAC (wC (.int 5)) (wAC (wC (.int 3)) (wAC (wTup (wAC (wTup (wAC (wC (.str "gate")) (wAC (wC (.int 2)) (wAC (wC (.int 4)) wA0)))) wA0)) wA0)))))
  (wSeq (wIfS (wOr (wTst (wB (opEq true) (oE (wCall 2 sp_output (wAC (wV 8) (wAC (wTup (wAC (wC (.int 3)) (wAC (wC (.int 4)) (wAC (wC (.int 3)) (wAC (wC (.int 2)) (wAC (wC (.int 1)) (wAC (wC (.int 3)) wA0))))))) wA0)))) (oE (wTup (wAC (wC (.int 0)) (wAC (wC (.int 4)) (wAC (wC (.int 3)) (wAC (wC (.int 2)) (wAC (wC (.int 0)) (wAC (wC (.int 0)) wA0)))))))))) (wTst (wB (opEq true) (oE (wCall 2 sp_state (wAC (wV 8) (wAC (wTup (wAC (wC (.int 4)) wA0)) wA0)))) (oE (wTup (wAC (wC (.int 1)) wA0))))))
  (wRet (wC (.bl false)))
  wNil)
  (wSeq (wIfS (wTst (wB (opEq true) (oE (wCall 2 sp_output (wAC (wTup (wAC (wC (.int 5)) (wAC (wC (.int 4)) (wAC (wTup (wAC (wTup (wAC (wC (.str "gate")) (wAC (wC (.int 2)) (wAC (wC (.int 4)) wA0)))) (wAC (wTup (wAC (wC (.str "slew")) (wAC (wC (.int 1)) (wAC (wC (.int 1)) wA0)))) wA0))) wA0)))) (wAC (wTup (wAC (wC (.int 0)) (wAC (wC (.int 0)) wA0))) wA0)))) (oE (wTup (wAC (wC (.int 3)) (wAC (wC (.int 2)) wA0))))))
  (wRet (wC (.bl false)))
  wNil)
  (wRet (wB (opEq false) (oE (wCall 2 sp_output (wAC (wTup (wAC (wC (.int 4)) (wAC (wC (.int 0)) (wAC (wTup (wAC (wTup (wAC (wC (.str "hold")) (wAC (wC (.int 2)) wA0))) wA0)) wA0)))) (wAC (wTup (wAC (wC (.int 1)) (wAC (wC (.int 2)) (wAC (wC (.int 3)) (wAC (wC (.int 4)) (wAC (wC (.int 4)) (wAC (wC (.int 0)) (wAC (wC (.int 0)) wA0)))))))) wA0)))) (oE (wTup (wAC (wC (.int 1)) (wAC (wC (.int 1)) (wAC (wC (.int 1)) (wAC (wC (.int 4)) (wAC (wC (.int 4)) (wAC (wC (.int 4)) (wAC (wC (.int 0)) wA0)))))))))))))))

def wf_with_place : WS :=
  (wRet (wCB opDict (wUC (oE (wB opAdd (oE (wItems (oV 0))) (oE (wLst (wAC (wTup (wAC (wV 1) (wAC (wCB opLenX (wUC (oV 0) wA0)) wA0))) wA0))))) wA0)))

def wf_table_from (sp_with_place : FSpec) (sp_step : FSpec) : WS :=
  (wSeq (wPr3 2 3 4 (wLC wDct0 (wLC (wTup wA0) (wLC (wTup wA0) wL0))))
  (wSeq (wFor (iW (wV 1)) (gN 5)
  (wIfS (wTst (wB (opInX true) (oV 5) (oV 2)))
  (wPr2 2 3 (wLC (wCall 2 sp_with_place (wAC (wV 2) (wAC (wV 5) wA0))) (wLC (wB opAdd (oV 3) (oE (wTup (wAC (wV 5) wA0)))) wL0)))
  wNil))
  (wSeq (wWhile (wTst (wB opLt (oE (wCB opLenX (wUC (oV 4) wA0))) (oE (wCB opLenX (wUC (oV 3) wA0)))))
  (wSeq (wPr2 5 6 (wLC (wB opIxX (oV 3) (oE (wCB opLenX (wUC (oV 4) wA0)))) (wLC (wTup wA0) wL0)))
  (wSeq (wFor (iR1 (wAC (wB opAdd (oE (wB opIxX (oV 0) (oE (wC (.int 0))))) (oE (wC (.int 1)))) wA0)) (gN 7)
  (wSeq (wAsg (wCall 3 sp_step (wAC (wB opIxX (oV 0) (oE (wC (.int 2)))) (wAC (wV 5) (wAC (wV 7) wA0)))) (gT (gCs (gN 8) (gCs (gN 9) gNl))))
  (wSeq (wIfS (wTst (wB (opInX true) (oV 9) (oV 2)))
  (wPr2 2 3 (wLC (wCall 2 sp_with_place (wAC (wV 2) (wAC (wV 9) wA0))) (wLC (wB opAdd (oV 3) (oE (wTup (wAC (wV 9) wA0)))) wL0)))
  wNil)
  (wSet 6 (wB opAdd (oV 6) (oE (wTup (wAC (wTup (wAC (wV 8) (wAC (wB opIxX (oV 2) (oV 9)) wA0))) wA0))))))))
  (wSet 4 (wB opAdd (oV 4) (oE (wTup (wAC (wV 6) wA0))))))))
  (wRet (wTup (wAC (wV 2) (wAC (wV 4) wA0)))))))

def wf_states (sp_table_from : FSpec) (sp_first_state : FSpec) (sp_need_chain : FSpec) : WS :=
  (wSeq (wDrop (wCall 1 sp_need_chain (wAC (wV 0) wA0)))
  (wRet (wCB opSorted (wUC (oE (wB opIxX (oE (wCall 2 sp_table_from (wAC (wV 0) (wAC (wLst (wAC (wCall 1 sp_first_state (wAC (wV 0) wA0)) wA0)) wA0)))) (oE (wC (.int 0))))) wA0))))

def wf_law_table (sp__law_tick : FSpec) : WS :=
  (wSeq (wPr3 2 3 4 (wLC wDct0 (wLC (wCB opListX (wUC (oV 1) wA0)) (wLC (wC (.int 0)) wL0))))
  (wSeq (wWhile (wTst (wB opLt (oV 4) (oE (wCB opLenX (wUC (oV 3) wA0)))))
  (wSeq (wSet 5 (wB opIxX (oV 3) (oV 4)))
  (wSeq (wIfS (wTst (wB (opInX true) (oV 5) (oV 2)))
  (wSeq (wSetX 2 (wLc [6] (iR1 (wAC (wB opAdd (oE (wB opIxX (oV 0) (oE (wC (.int 0))))) (oE (wC (.int 1)))) wA0)) (gN 6) wYes (wCall 3 sp__law_tick (wAC (wV 0) (wAC (wV 5) (wAC (wV 6) wA0))))) (oV 5))
  (wSet 3 (wB opAdd (oV 3) (oE (wLc [7, 8] (iW (wB opIxX (oV 2) (oV 5))) (gT (gCs (gN 7) (gCs (gN 8) gNl))) (wTst (wB (opInX true) (oV 8) (oV 2))) (wV 8))))))
  wNil)
  (wSet 4 (wB opAdd (oV 4) (oE (wC (.int 1))))))))
  (wRet (wMv 2))))

def wf_law_k03 (sp_states : FSpec) (sp_state : FSpec) (sp__law_levels : FSpec) (sp__law_same : FSpec) (sp__law_table : FSpec) (sp__law_first : FSpec) (sp__law_chain : FSpec) (sp__law_pick : FSpec) (sp__law_deck : FSpec) : WS :=
  (wSeq (wFor (iR1 (wAC (wC (.int 6)) wA0)) (gN 1)
  (wSeq (wPub 2 (wCall 2 sp__law_deck (wAC (wB opIxX (oE (wB opAdd (oV 0) (oE (wB opMul (oE (wLst (wAC (wC (.int 0)) wA0))) (oE (wC (.int 6))))))) (oV 1)) (wAC (wV 1) wA0))))
  (wFor (iR1 (wAC (wC (.int 4)) wA0)) (gN 3)
  (wSeq (wSet 4 (wCall 3 sp__law_chain (wAC (wV 2) (wAC (wB opIxX (oE (wLst (wAC (wC (.int 2)) (wAC (wC (.int 5)) wA0)))) (oE (wCall 2 sp__law_pick (wAC (wV 2) (wAC (wC (.int 2)) wA0))))) (wAC (wC (.int 3)) wA0)))))
  (wSeq (wSet 5 (wCB opSorted (wUC (oE (wCall 2 sp__law_table (wAC (wV 4) (wAC (wLst (wAC (wCall 1 sp__law_first (wAC (wV 4) wA0)) wA0)) wA0)))) wA0)))
  (wSeq (wSet 6 (wCall 1 sp_states (wAC (wV 4) wA0)))
  (wSeq (wIfS (wNot (wTst (wCallU 2 sp__law_same (wUC (oV 6) (wUC (oV 5) wA0)))))
  (wRet (wC (.bl false)))
  wNil)
  (wSeq (wApp 6 (wTup wA0))
  (wSeq (wIfS (wNot (wTst (wCall 2 sp__law_same (wAC (wCall 1 sp_states (wAC (wV 4) wA0)) (wAC (wV 5) wA0)))))
  (wRet (wC (.bl false)))
  wNil)
  (wIfS (wTst (wB (opInX true) (oE (wCall 2 sp_state (wAC (wV 4) (wAC (wCall 3 sp__law_levels (wAC (wV 2) (wAC (wB opIxX (oV 4) (oE (wC (.int 0)))) (wAC (wC (.int 12)) wA0)))) wA0)))) (oV 5)))
  (wRet (wC (.bl false)))
  wNil))))))))))
  (wRet (wB (opEq false) (oE (wCall 1 sp_states (wAC (wTup (wAC (wC (.int 2)) (wAC (wC (.int 1)) (wAC (wTup (wAC (wTup (wAC (wC (.str "hold")) (wAC (wC (.int 1)) wA0))) wA0)) wA0)))) wA0))) (oE (wLst (wAC (wTup (wAC (wTup (wAC (wC (.int 0)) (wAC (wC (.int 0)) wA0))) wA0)) (wAC (wTup (wAC (wTup (wAC (wC (.int 0)) (wAC (wC (.int 1)) wA0))) wA0)) (wAC (wTup (wAC (wTup (wAC (wC (.int 1)) (wAC (wC (.int 0)) wA0))) wA0)) (wAC (wTup (wAC (wTup (wAC (wC (.int 1)) (wAC (wC (.int 1)) wA0))) wA0)) (wAC (wTup (wAC (wTup (wAC (wC (.int 2)) (wAC (wC (.int 0)) wA0))) wA0)) (wAC (wTup (wAC (wTup (wAC (wC (.int 2)) (wAC (wC (.int 1)) wA0))) wA0)) wA0)))))))))))

def wf_need_pair (sp_need_chain : FSpec) : WS :=
  (wSeq (wDrop (wCall 1 sp_need_chain (wAC (wV 0) wA0)))
  (wSeq (wDrop (wCall 1 sp_need_chain (wAC (wV 1) wA0)))
  (wIfS (wTst (wB (opEq true) (oE (wB opIxX (oV 0) (oE (wC (.int 0))))) (oE (wB opIxX (oV 1) (oE (wC (.int 0)))))))
  wNev
  wNil)))

def wf_rows_of (sp_table_from : FSpec) (sp_first_state : FSpec) : WS :=
  (wRet (wB opIxX (oE (wCall 2 sp_table_from (wAC (wV 0) (wAC (wLst (wAC (wCall 1 sp_first_state (wAC (wV 0) wA0)) wA0)) wA0)))) (oE (wC (.int 1)))))

def wf_row_to : WS :=
  (wSeq (wSet 2 (wTup wA0))
  (wSeq (wWhile (wTst (wB (opIs true) (oE (wB opIxX (oV 0) (oV 1))) (oE (wC .non))))
  (wSeq (wAsg (wB opIxX (oV 0) (oV 1)) (gT (gCs (gN 1) (gCs (gN 3) gNl))))
  (wSet 2 (wB opAdd (oE (wTup (wAC (wV 3) wA0))) (oV 2)))))
  (wRet (wMv 2))))

def wf_parted (sp_row_to : FSpec) : WS :=
  (wSeq (wPr2 2 3 (wLC (wDct1 true (wTup (wAC (wC (.int 0)) (wAC (wC (.int 0)) wA0))) (wC .non)) (wLC (wLst (wAC (wTup (wAC (wC (.int 0)) (wAC (wC (.int 0)) wA0))) wA0)) wL0)))
  (wSeq (wWhile (wTst (wB (opEq true) (oV 3) (oE (wLst wA0))))
  (wSeq (wSet 4 (wLst wA0))
  (wSeq (wFor (iW (wV 3)) (gN 5)
  (wFor (iEz (wAC (wB opIxX (oV 0) (oE (wB opIxX (oV 5) (oE (wC (.int 0)))))) (wAC (wB opIxX (oV 1) (oE (wB opIxX (oV 5) (oE (wC (.int 1)))))) wA0))) (gT (gCs (gN 6) (gCs (gT (gCs (gN 7) (gCs (gN 8) gNl))) gNl)))
  (wSeq (wIfS (wTst (wB (opEq true) (oE (wB opIxX (oV 7) (oE (wC (.int 0))))) (oE (wB opIxX (oV 8) (oE (wC (.int 0)))))))
  (wRet (wB opAdd (oE (wCall 2 sp_row_to (wAC (wV 2) (wAC (wV 5) wA0)))) (oE (wTup (wAC (wV 6) wA0)))))
  wNil)
  (wSeq (wSet 9 (wTup (wAC (wB opIxX (oV 7) (oE (wC (.int 1)))) (wAC (wB opIxX (oV 8) (oE (wC (.int 1)))) wA0))))
  (wIfS (wTst (wB (opInX true) (oV 9) (oV 2)))
  (wSeq (wSetX 2 (wTup (wAC (wV 5) (wAC (wV 6) wA0))) (oV 9))
  (wApp 4 (wV 9)))
  wNil)))))
  (wSet 3 (wV 4)))))
  (wRet (wC .non))))

def wf_same_for_all (sp_parted : FSpec) (sp_rows_of : FSpec) : WS :=
  (wRet (wB (opIs false) (oE (wCall 2 sp_parted (wAC (wCall 1 sp_rows_of (wAC (wV 0) wA0)) (wAC (wCall 1 sp_rows_of (wAC (wV 1) wA0)) wA0)))) (oE (wC .non))))

def wf_alike (sp_same_for_all : FSpec) (sp_need_pair : FSpec) : WS :=
  (wSeq (wDrop (wCall 2 sp_need_pair (wAC (wV 0) (wAC (wV 1) wA0))))
  (wRet (wCall 2 sp_same_for_all (wAC (wV 0) (wAC (wV 1) wA0)))))

def wf_parting_signal (sp_parted : FSpec) (sp_rows_of : FSpec) (sp_need_pair : FSpec) : WS :=
  (wSeq (wDrop (wCall 2 sp_need_pair (wAC (wV 0) (wAC (wV 1) wA0))))
  (wRet (wCall 2 sp_parted (wAC (wCall 1 sp_rows_of (wAC (wV 0) wA0)) (wAC (wCall 1 sp_rows_of (wAC (wV 1) wA0)) wA0)))))

def wf_bound (sp_rows_of : FSpec) (sp_need_pair : FSpec) : WS :=
  (wSeq (wDrop (wCall 2 sp_need_pair (wAC (wV 0) (wAC (wV 1) wA0))))
  (wRet (wB opSub (oE (wB opAdd (oE (wCB opLenX (wUC (oE (wCall 1 sp_rows_of (wAC (wV 0) wA0))) wA0))) (oE (wCB opLenX (wUC (oE (wCall 1 sp_rows_of (wAC (wV 1) wA0))) wA0))))) (oE (wC (.int 1))))))

def wf_law_bent (sp__law_pick : FSpec) (sp__law_one : FSpec) : WS :=
  (wSeq (wAsg (wV 1) (gT (gCs (gN 2) (gCs (gN 3) (gCs (gN 4) gNl)))))
  (wSeq (wIfS (wOr (wTst (wB (opEq false) (oV 4) (oE (wTup wA0)))) (wTst (wB (opEq false) (oE (wCall 2 sp__law_pick (wAC (wV 0) (wAC (wC (.int 6)) wA0)))) (oE (wC (.int 0))))))
  (wRet (wTup (wAC (wV 2) (wAC (wCall 2 sp__law_pick (wAC (wV 0) (wAC (wB opAdd (oV 2) (oE (wC (.int 1)))) wA0))) (wAC (wV 4) wA0)))))
  wNil)
  (wSeq (wSet 5 (wCall 2 sp__law_pick (wAC (wV 0) (wAC (wCB opLenX (wUC (oV 4) wA0)) wA0))))
  (wSeq (wSet 6 (wB opIxX (oV 4) (oV 5)))
  (wSeq (wIfS (wTst (wB (opEq false) (oE (wB opIxX (oV 6) (oE (wC (.int 0))))) (oE (wC (.str "hold")))))
  (wSet 7 (wTup (wAC (wC (.str "hold")) (wAC (wB opSub (oE (wC (.int 3))) (oE (wB opIxX (oV 6) (oE (wC (.int 1)))))) wA0))))
  (wIfS (wTst (wB (opEq false) (oE (wB opIxX (oV 6) (oE (wC (.int 0))))) (oE (wC (.str "slew")))))
  (wSeq (wSet 8 (wLst (wAC (wTup (wAC (wB opAdd (oE (wB opIxX (oV 6) (oE (wC (.int 1))))) (oE (wC (.int 1)))) (wAC (wB opIxX (oV 6) (oE (wC (.int 2)))) wA0))) (wAC (wTup (wAC (wB opSub (oE (wB opIxX (oV 6) (oE (wC (.int 1))))) (oE (wC (.int 1)))) (wAC (wB opIxX (oV 6) (oE (wC (.int 2)))) wA0))) (wAC (wTup (wAC (wB opIxX (oV 6) (oE (wC (.int 1)))) (wAC (wB opAdd (oE (wB opIxX (oV 6) (oE (wC (.int 2))))) (oE (wC (.int 1)))) wA0))) (wAC (wTup (wAC (wB opIxX (oV 6) (oE (wC (.int 1)))) (wAC (wB opSub (oE (wB opIxX (oV 6) (oE (wC (.int 2))))) (oE (wC (.int 1)))) wA0))) wA0))))))
  (wSeq (wAsg (wCall 2 sp__law_one (wAC (wV 0) (wAC (wV 8) wA0))) (gT (gCs (gN 9) (gCs (gN 10) gNl))))
  (wSet 7 (wTup (wAC (wC (.str "slew")) (wAC (wCB opMin2 (wUC (oE (wC (.int 5))) (wUC (oE (wCB opMax2 (wUC (oE (wC (.int 0))) (wUC (oV 9) wA0)))) wA0))) (wAC (wCB opMin2 (wUC (oE (wC (.int 5))) (wUC (oE (wCB opMax2 (wUC (oE (wC (.int 0))) (wUC (oV 10) wA0)))) wA0))) wA0)))))))
  (wSeq (wSet 11 (wCall 2 sp__law_pick (wAC (wV 0) (wAC (wB opAdd (oV 2) (oE (wC (.int 1)))) wA0))))
  (wSet 7 (wTup (wAC (wB opIxX (oV 6) (oE (wC (.int 0)))) (wAC (wV 11) (wAC (wB opAdd (oV 11) (oE (wCall 2 sp__law_pick (wAC (wV 0) (wAC (wB opSub (oE (wB opAdd (oV 2) (oE (wC (.int 1))))) (oV 11)) wA0))))) wA0))))))))
  (wSeq (wIfS (wTst (wB (opEq false) (oE (wCall 2 sp__law_pick (wAC (wV 0) (wAC (wC (.int 4)) wA0)))) (oE (wC (.int 0)))))
  (wRet (wTup (wAC (wV 2) (wAC (wV 3) (wAC (wB opAdd (oE (wSl (oV 4) pN (pS (wV 5)))) (oE (wSl (oV 4) (pS (wB opAdd (oV 5) (oE (wC (.int 1))))) pN))) wA0)))))
  wNil)
  (wRet (wTup (wAC (wV 2) (wAC (wV 3) (wAC (wB opAdd (oE (wB opAdd (oE (wSl (oV 4) pN (pS (wV 5)))) (oE (wTup (wAC (wV 7) wA0))))) (oE (wSl (oV 4) (pS (wB opAdd (oV 5) (oE (wC (.int 1))))) pN))) wA0)))))))))))

def wf_law_all_levels : WS :=
  (wSeq (wSet 2 (wLst (wAC (wTup wA0) wA0)))
  (wSeq (wFor (iR1 (wAC (wV 1) wA0)) (gN 3)
  (wSeq (wSet 4 (wLst wA0))
  (wSeq (wFor (iW (wV 2)) (gN 5)
  (wSet 4 (wB opAdd (oV 4) (oE (wLc [6] (iR1 (wAC (wB opAdd (oV 0) (oE (wC (.int 1)))) wA0)) (gN 6) wYes (wB opAdd (oV 5) (oE (wTup (wAC (wV 6) wA0)))))))))
  (wSet 2 (wV 4)))))
  (wRet (wMv 2))))

def wf_law_first_apart (sp__law_all_levels : FSpec) (sp__law_outs : FSpec) : WS :=
  (wSeq (wFor (iR2 (wAC (wC (.int 1)) (wAC (wB opAdd (oV 2) (oE (wC (.int 1)))) wA0))) (gN 3)
  (wFor (iW (wCall 2 sp__law_all_levels (wAC (wB opIxX (oV 0) (oE (wC (.int 0)))) (wAC (wV 3) wA0)))) (gN 4)
  (wIfS (wTst (wB (opEq true) (oE (wCall 2 sp__law_outs (wAC (wV 0) (wAC (wV 4) wA0)))) (oE (wCall 2 sp__law_outs (wAC (wV 1) (wAC (wV 4) wA0))))))
  (wRet (wMv 4))
  wNil)))
  (wRet (wC .non)))

def wf_law_k04 (sp_parting_signal : FSpec) (sp_bound : FSpec) (sp_alike : FSpec) (sp__law_bool : FSpec) (sp__law_first_apart : FSpec) (sp__law_table : FSpec) (sp__law_first : FSpec) (sp__law_bent : FSpec) (sp__law_chain : FSpec) (sp__law_deck : FSpec) : WS :=
  (wSeq (wFor (iR1 (wAC (wC (.int 5)) wA0)) (gN 1)
  (wSeq (wPub 2 (wCall 2 sp__law_deck (wAC (wB opIxX (oE (wB opAdd (oV 0) (oE (wB opMul (oE (wLst (wAC (wC (.int 0)) wA0))) (oE (wC (.int 5))))))) (oV 1)) (wAC (wV 1) wA0))))
  (wFor (iR1 (wAC (wC (.int 4)) wA0)) (gN 3)
  (wSeq (wSet 4 (wCall 3 sp__law_chain (wAC (wV 2) (wAC (wC (.int 2)) (wAC (wC (.int 2)) wA0)))))
  (wSeq (wSet 5 (wCall 2 sp__law_bent (wAC (wV 2) (wAC (wV 4) wA0))))
  (wSeq (wSet 6 (wB opSub (oE (wB opAdd (oE (wCB opLenX (wUC (oE (wCall 2 sp__law_table (wAC (wV 4) (wAC (wLst (wAC (wCall 1 sp__law_first (wAC (wV 4) wA0)) wA0)) wA0)))) wA0))) (oE (wCB opLenX (wUC (oE (wCall 2 sp__law_table (wAC (wV 5) (wAC (wLst (wAC (wCall 1 sp__law_first (wAC (wV 5) wA0)) wA0)) wA0)))) wA0))))) (oE (wC (.int 1)))))
  (wSeq (wIfS (wOr (wTst (wB (opEq true) (oE (wCall 2 sp_bound (wAC (wV 4) (wAC (wV 5) wA0)))) (oV 6))) (wTst (wB (opEq true) (oE (wCall 2 sp_bound (wAC (wV 5) (wAC (wV 4) wA0)))) (oV 6))))
  (wRet (wC (.bl false)))
  wNil)
  (wSeq (wSet 7 (wCB opMin2 (wUC (oV 6) (wUC (oE (wIf (wTst (wB (opEq false) (oE (wB opIxX (oV 4) (oE (wC (.int 0))))) (oE (wC (.int 1))))) (wC (.int 8)) (wC (.int 5)))) wA0))))
  (wSeq (wSet 8 (wCall 3 sp__law_first_apart (wAC (wV 4) (wAC (wV 5) (wAC (wV 7) wA0)))))
  (wSeq (wIfS (wOr (wTst (wB (opIs true) (oV 8) (oE (wC .non)))) (wTst (wB (opEq false) (oV 7) (oV 6))))
  (wIfS (wOr (wTst (wB (opEq true) (oE (wCall 2 sp_parting_signal (wAC (wV 4) (wAC (wV 5) wA0)))) (oV 8))) (wNot (wTst (wCall 2 sp__law_bool (wAC (wCall 2 sp_alike (wAC (wV 4) (wAC (wV 5) wA0))) (wAC (wB (opIs false) (oV 8) (oE (wC .non))) wA0))))))
  (wRet (wC (.bl false)))
  wNil)
  wNil)
  (wIfS (wOr (wTst (wB (opIs true) (oE (wCall 2 sp_alike (wAC (wV 4) (wAC (wV 4) wA0)))) (oE (wC (.bl true))))) (wTst (wB (opIs true) (oE (wCall 2 sp_parting_signal (wAC (wV 5) (wAC (wV 5) wA0)))) (oE (wC .non)))))
  (wRet (wC (.bl false)))
  wNil)))))))))))
  (wSeq (wPr2 9 5 (wLC (wTup (wAC (wC (.int 1)) (wAC (wC (.int 0)) (wAC (wTup (wAC (wTup (wAC (wC (.str "hold")) (wAC (wC (.int 1)) wA0))) wA0)) wA0)))) (wLC (wTup (wAC (wC (.int 1)) (wAC (wC (.int 0)) (wAC (wTup (wAC (wTup (wAC (wC (.str "hold")) (wAC (wC (.int 2)) wA0))) wA0)) wA0)))) wL0)))
  (wRet (vAnd (wB (opEq false) (oE (wCall 2 sp_parting_signal (wAC (wV 9) (wAC (wV 5) wA0)))) (oE (wTup (wAC (wC (.int 1)) (wAC (wC (.int 0)) (wAC (wC (.int 0)) wA0)))))) (wB (opEq false) (oE (wCall 2 sp_bound (wAC (wV 9) (wAC (wV 5) wA0)))) (oE (wC (.int 9))))))))

def wf_form_of (sp_with_place : FSpec) (sp_class_numbers : FSpec) (sp_rows_of : FSpec) : WS :=
  (wSeq (wSet 1 (wCall 1 sp_rows_of (wAC (wV 0) wA0)))
  (wSeq (wSet 2 (wCall 1 sp_class_numbers (wAC (wV 1) wA0)))
  (wSeq (wPr3 3 4 5 (wLC (wDct1 false (wB opIxX (oV 2) (oE (wC (.int 0)))) (wC (.int 0))) (wLC (wTup (wAC (wC (.int 0)) wA0)) (wLC (wTup wA0) wL0))))
  (wSeq (wWhile (wTst (wB opLt (oE (wCB opLenX (wUC (oV 5) wA0))) (oE (wCB opLenX (wUC (oV 4) wA0)))))
  (wSeq (wSet 6 (wTup wA0))
  (wSeq (wFor (iW (wB opIxX (oV 1) (oE (wB opIxX (oV 4) (oE (wCB opLenX (wUC (oV 5) wA0))))))) (gT (gCs (gN 7) (gCs (gN 8) gNl)))
  (wSeq (wIfS (wTst (wB (opInX true) (oE (wB opIxX (oV 2) (oV 8))) (oV 3)))
  (wPr2 3 4 (wLC (wCall 2 sp_with_place (wAC (wV 3) (wAC (wB opIxX (oV 2) (oV 8)) wA0))) (wLC (wB opAdd (oV 4) (oE (wTup (wAC (wV 8) wA0)))) wL0)))
  wNil)
  (wSet 6 (wB opAdd (oV 6) (oE (wTup (wAC (wTup (wAC (wV 7) (wAC (wB opIxX (oV 3) (oE (wB opIxX (oV 2) (oV 8)))) wA0))) wA0)))))))
  (wSet 5 (wB opAdd (oV 5) (oE (wTup (wAC (wV 6) wA0))))))))
  (wRet (wMv 5))))))

def wf_fewest_states (sp_form_of : FSpec) (sp_need_chain : FSpec) : WS :=
  (wSeq (wDrop (wCall 1 sp_need_chain (wAC (wV 0) wA0)))
  (wRet (wCB opLenX (wUC (oE (wCall 1 sp_form_of (wAC (wV 0) wA0))) wA0))))

def wf_walked : WS :=
  (wSeq (wPr3 3 4 5 (wLC (wDct1 true (wTup (wAC (wC (.int 0)) (wAC (wC (.int 0)) wA0))) (wC .non)) (wLC (wLst (wAC (wTup (wAC (wC (.int 0)) (wAC (wC (.int 0)) wA0))) wA0)) (wLC (wC (.int 0)) wL0))))
  (wSeq (wWhile (wTst (wB opLt (oV 5) (oE (wCB opLenX (wUC (oV 4) wA0)))))
  (wSeq (wSet 6 (wB opIxX (oV 4) (oV 5)))
  (wSeq (wFor (iW (wV 2)) (gN 7)
  (wSeq (wSet 8 (wTup (wAC (wB opIxX (oE (wB opIxX (oE (wB opIxX (oV 0) (oE (wB opIxX (oV 6) (oE (wC (.int 0))))))) (oE (wB opIxX (oV 7) (oE (wC (.int 0))))))) (oE (wC (.int 1)))) (wAC (wB opIxX (oE (wB opIxX (oE (wB opIxX (oV 1) (oE (wB opIxX (oV 6) (oE (wC (.int 1))))))) (oE (wB opIxX (oV 7) (oE (wC (.int 1))))))) (oE (wC (.int 1)))) wA0))))
  (wIfS (wTst (wB (opInX true) (oV 8) (oV 3)))
  (wSeq (wSetX 3 (wTup (wAC (wV 6) (wAC (wV 7) wA0))) (oV 8))
  (wApp 4 (wV 8)))
  wNil)))
  (wAug 5 (fun i j => i + j) (wC (.int 1))))))
  (wRet (wMv 3))))

def wf_same_moves : WS :=
  (wRet (wLc [1] (iR1 (wAC (wB opAdd (oV 0) (oE (wC (.int 1)))) wA0)) (gN 1) wYes (wTup (wAC (wV 1) (wAC (wV 1) wA0)))))

def wf_law_k05 (sp_alike : FSpec) (sp_fewest_states : FSpec) (sp_output : FSpec) (sp__law_levels : FSpec) (sp_apart : FSpec) (sp_parting_signal : FSpec) (sp__law_idle : FSpec) (sp__law_chain : FSpec) (sp__law_pick : FSpec) (sp__law_deck : FSpec) : WS :=
  (wSeq (wFor (iR1 (wAC (wC (.int 6)) wA0)) (gN 1)
  (wSeq (wPub 2 (wCall 2 sp__law_deck (wAC (wB opIxX (oE (wB opAdd (oV 0) (oE (wB opMul (oE (wLst (wAC (wC (.int 0)) wA0))) (oE (wC (.int 6))))))) (oV 1)) (wAC (wV 1) wA0))))
  (wFor (iR1 (wAC (wC (.int 4)) wA0)) (gN 3)
  (wSeq (wSet 4 (wCall 3 sp__law_chain (wAC (wV 2) (wAC (wB opIxX (oE (wLst (wAC (wC (.int 2)) (wAC (wC (.int 5)) wA0)))) (oE (wCall 2 sp__law_pick (wAC (wV 2) (wAC (wC (.int 2)) wA0))))) (wAC (wC (.int 2)) wA0)))))
  (wSeq (wSet 5 (wCall 2 sp__law_idle (wAC (wV 2) (wAC (wCall 2 sp__law_idle (wAC (wV 2) (wAC (wV 4) wA0))) wA0))))
  (wSeq (wIfS (wOr (wTst (wB (opIs true) (oE (wCall 2 sp_alike (wAC (wV 4) (wAC (wV 5) wA0)))) (oE (wC (.bl true))))) (wTst (wB (opIs true) (oE (wCall 2 sp_parting_signal (wAC (wV 5) (wAC (wV 4) wA0)))) (oE (wC .non)))))
  (wRet (wC (.bl false)))
  wNil)
  (wSeq (wIfS (wOr (wTst (wB (opEq true) (oE (wCall 1 sp_fewest_states (wAC (wV 4) wA0))) (oE (wCall 1 sp_fewest_states (wAC (wV 5) wA0))))) (wTst (wB (opEq true) (oE (wCall 2 sp_apart (wAC (wV 5) (wAC (wV 4) wA0)))) (oE (wTup (wAC (wC (.int 0)) (wAC (wC (.int 0)) wA0)))))))
  (wRet (wC (.bl false)))
  wNil)
  (wSeq (wSet 6 (wCall 3 sp__law_levels (wAC (wV 2) (wAC (wB opIxX (oV 4) (oE (wC (.int 0)))) (wAC (wC (.int 20)) wA0)))))
  (wIfS (wTst (wB (opEq true) (oE (wCall 2 sp_output (wAC (wV 4) (wAC (wV 6) wA0)))) (oE (wCall 2 sp_output (wAC (wV 5) (wAC (wV 6) wA0))))))
  (wRet (wC (.bl false)))
  wNil)))))))))
  (wSeq (wPr2 7 5 (wLC (wTup (wAC (wC (.int 3)) (wAC (wC (.int 0)) (wAC (wTup (wAC (wTup (wAC (wC (.str "clip")) (wAC (wC (.int 1)) (wAC (wC (.int 2)) wA0)))) (wAC (wTup (wAC (wC (.str "clip")) (wAC (wC (.int 0)) (wAC (wC (.int 1)) wA0)))) wA0))) wA0)))) (wLC (wTup (wAC (wC (.int 3)) (wAC (wC (.int 3)) (wAC (wTup (wAC (wTup (wAC (wC (.str "clip")) (wAC (wC (.int 1)) (wAC (wC (.int 1)) wA0)))) wA0)) wA0)))) wL0)))
  (wRet (vAnd (wB (opIs false) (oE (wCall 2 sp_alike (wAC (wV 7) (wAC (wV 5) wA0)))) (oE (wC (.bl true)))) (wB (opEq false) (oE (wCall 1 sp_fewest_states (wAC (wV 7) wA0))) (oE (wC (.int 1))))))))

def wf_need_number (sp_is_from : FSpec) : WS :=
  (wIfS (wNot (wTst (wCall 3 sp_is_from (wAC (wV 0) (wAC (wV 1) (wAC (wV 2) wA0))))))
  wNev
  wNil)

def wf_apart_signal (sp_gaps_of : FSpec) (sp_row_to : FSpec) (sp_walked : FSpec) (sp_same_moves : FSpec) (sp_rows_of : FSpec) (sp_need_number : FSpec) (sp_need_pair : FSpec) : WS :=
  (wSeq (wDrop (wCall 2 sp_need_pair (wAC (wV 0) (wAC (wV 1) wA0))))
  (wSeq (wDrop (wCall 3 sp_need_number (wAC (wV 2) (wAC (wB opSub (oE (wC (.int 0))) (oE (wB opIxX (oV 0) (oE (wC (.int 0)))))) (wAC (wB opIxX (oV 0) (oE (wC (.int 0)))) wA0)))))
  (wSeq (wPr3 3 4 5 (wLC (wCall 1 sp_rows_of (wAC (wV 0) wA0)) (wLC (wCall 1 sp_rows_of (wAC (wV 1) wA0)) (wLC (wCall 1 sp_same_moves (wAC (wB opIxX (oV 0) (oE (wC (.int 0)))) wA0)) wL0))))
  (wSeq (wSet 6 (wCall 3 sp_walked (wAC (wV 3) (wAC (wV 4) (wAC (wV 5) wA0)))))
  (wSeq (wFor (iW (wCall 4 sp_gaps_of (wAC (wV 3) (wAC (wV 4) (wAC (wV 6) (wAC (wV 5) wA0)))))) (gT (gCs (gN 7) (gCs (gN 8) (gCs (gN 9) gNl))))
  (wIfS (wTst (wB (opEq false) (oV 7) (oV 2)))
  (wRet (wB opAdd (oE (wCB opTuple (wUC (oE (wLc [10] (iW (wCall 2 sp_row_to (wAC (wV 6) (wAC (wV 8) wA0)))) (gN 10) wYes (wB opIxX (oV 10) (oE (wC (.int 0)))))) wA0))) (oE (wTup (wAC (wB opIxX (oV 9) (oE (wC (.int 0)))) wA0)))))
  wNil))
  (wRet (wC .non)))))))

def wf_law_parts_at (sp__law_tick : FSpec) (sp__law_first : FSpec) : WS :=
  (wSeq (wSet 2 (wDct1 true (wTup (wAC (wCall 1 sp__law_first (wAC (wV 0) wA0)) (wAC (wCall 1 sp__law_first (wAC (wV 1) wA0)) wA0))) (wC (.bl true))))
  (wSeq (wSet 3 (wLst (wAC (wTup (wAC (wTup wA0) (wAC (wCall 1 sp__law_first (wAC (wV 0) wA0)) (wAC (wCall 1 sp__law_first (wAC (wV 1) wA0)) wA0)))) wA0)))
  (wSeq (wWhile (wTst (wB (opEq true) (oV 3) (oE (wLst wA0))))
  (wSeq (wSet 4 (wLst wA0))
  (wSeq (wFor (iW (wV 3)) (gT (gCs (gN 5) (gCs (gN 6) (gCs (gN 7) gNl))))
  (wFor (iR1 (wAC (wB opAdd (oE (wB opIxX (oV 0) (oE (wC (.int 0))))) (oE (wC (.int 1)))) wA0)) (gN 8)
  (wSeq (wAsg (wCall 3 sp__law_tick (wAC (wV 0) (wAC (wV 6) (wAC (wV 8) wA0)))) (gT (gCs (gN 9) (gCs (gN 10) gNl))))
  (wSeq (wAsg (wCall 3 sp__law_tick (wAC (wV 1) (wAC (wV 7) (wAC (wV 8) wA0)))) (gT (gCs (gN 11) (gCs (gN 12) gNl))))
  (wSeq (wIfS (wTst (wB (opEq true) (oV 9) (oV 11)))
  (wRet (wB opAdd (oV 5) (oE (wTup (wAC (wV 8) wA0)))))
  wNil)
  (wIfS (wTst (wB (opInX true) (oE (wTup (wAC (wV 10) (wAC (wV 12) wA0)))) (oV 2)))
  (wSeq (wSetX 2 (wC (.bl true)) (oE (wTup (wAC (wV 10) (wAC (wV 12) wA0)))))
  (wApp 4 (wTup (wAC (wB opAdd (oV 5) (oE (wTup (wAC (wV 8) wA0)))) (wAC (wV 10) (wAC (wV 12) wA0))))))
  wNil))))))
  (wSet 3 (wV 4)))))
  (wRet (wC .non)))))

def wf_law_k07 (sp_fewest_states : FSpec) (sp__law_classes : FSpec) (sp__law_chain : FSpec) (sp__law_pick : FSpec) (sp__law_deck : FSpec) : WS :=
  (wSeq (wFor (iR1 (wAC (wC (.int 5)) wA0)) (gN 1)
  (wSeq (wPub 2 (wCall 2 sp__law_deck (wAC (wB opIxX (oE (wB opAdd (oV 0) (oE (wB opMul (oE (wLst (wAC (wC (.int 0)) wA0))) (oE (wC (.int 5))))))) (oV 1)) (wAC (wV 1) wA0))))
  (wFor (iR1 (wAC (wC (.int 4)) wA0)) (gN 3)
  (wSeq (wSet 4 (wCall 3 sp__law_chain (wAC (wV 2) (wAC (wB opIxX (oE (wLst (wAC (wC (.int 2)) (wAC (wC (.int 3)) wA0)))) (oE (wCall 2 sp__law_pick (wAC (wV 2) (wAC (wC (.int 2)) wA0))))) (wAC (wC (.int 3)) wA0)))))
  (wIfS (wTst (wB (opEq true) (oE (wCall 1 sp_fewest_states (wAC (wV 4) wA0))) (oE (wCall 1 sp__law_classes (wAC (wV 4) wA0)))))
  (wRet (wC (.bl false)))
  wNil)))))
  (wSeq (wIfS (wOr (wTst (wB (opEq true) (oE (wCall 1 sp_fewest_states (wAC (wTup (wAC (wC (.int 5)) (wAC (wC (.int 0)) (wAC (wTup wA0) wA0)))) wA0))) (oE (wC (.int 1))))) (wTst (wB (opEq true) (oE (wCall 1 sp_fewest_states (wAC (wTup (wAC (wC (.int 5)) (wAC (wC (.int 0)) (wAC (wTup (wAC (wTup (wAC (wC (.str "slew")) (wAC (wC (.int 0)) (wAC (wC (.int 0)) wA0)))) wA0)) wA0)))) wA0))) (oE (wC (.int 1))))))
  (wRet (wC (.bl false)))
  wNil)
  (wSeq (wIfS (wOr (wTst (wB (opEq true) (oE (wCall 1 sp_fewest_states (wAC (wTup (wAC (wC (.int 1)) (wAC (wC (.int 0)) (wAC (wTup (wAC (wTup (wAC (wC (.str "hold")) (wAC (wC (.int 2)) wA0))) wA0)) wA0)))) wA0))) (oE (wC (.int 6))))) (wTst (wB (opEq true) (oE (wCall 1 sp_fewest_states (wAC (wTup (wAC (wC (.int 3)) (wAC (wC (.int 0)) (wAC (wTup (wAC (wTup (wAC (wC (.str "slew")) (wAC (wC (.int 1)) (wAC (wC (.int 1)) wA0)))) (wAC (wTup (wAC (wC (.str "clip")) (wAC (wC (.int 2)) (wAC (wC (.int 3)) wA0)))) wA0))) wA0)))) wA0))) (oE (wC (.int 4))))))
  (wRet (wC (.bl false)))
  wNil)
  (wSeq (wIfS (wTst (wB (opEq true) (oE (wCall 1 sp_fewest_states (wAC (wTup (wAC (wC (.int 5)) (wAC (wC (.int 0)) (wAC (wTup (wAC (wTup (wAC (wC (.str "slew")) (wAC (wC (.int 1)) (wAC (wC (.int 1)) wA0)))) (wAC (wTup (wAC (wC (.str "clip")) (wAC (wC (.int 4)) (wAC (wC (.int 5)) wA0)))) wA0))) wA0)))) wA0))) (oE (wC (.int 6)))))
  (wRet (wC (.bl false)))
  wNil)
  (wRet (wB (opEq false) (oE (wCall 1 sp_fewest_states (wAC (wTup (wAC (wC (.int 2)) (wAC (wC (.int 0)) (wAC (wTup (wAC (wTup (wAC (wC (.str "slew")) (wAC (wC (.int 1)) (wAC (wC (.int 1)) wA0)))) (wAC (wTup (wAC (wC (.str "clip")) (wAC (wC (.int 0)) (wAC (wC (.int 0)) wA0)))) wA0))) wA0)))) wA0))) (oE (wC (.int 1)))))))))

def wf_law_gaps (sp__law_tick : FSpec) (sp__law_first : FSpec) : WS :=
  (wSeq (wSet 2 (wDct1 true (wTup (wAC (wCall 1 sp__law_first (wAC (wV 0) wA0)) (wAC (wCall 1 sp__law_first (wAC (wV 1) wA0)) wA0))) (wC (.bl true))))
  (wSeq (wPr2 3 4 (wLC (wLst (wAC (wTup (wAC (wTup wA0) (wAC (wCall 1 sp__law_first (wAC (wV 0) wA0)) (wAC (wCall 1 sp__law_first (wAC (wV 1) wA0)) wA0)))) wA0)) (wLC wDct0 wL0)))
  (wSeq (wWhile (wTst (wB (opEq true) (oV 3) (oE (wLst wA0))))
  (wSeq (wSet 5 (wLst wA0))
  (wSeq (wFor (iW (wV 3)) (gT (gCs (gN 6) (gCs (gN 7) (gCs (gN 8) gNl))))
  (wFor (iR1 (wAC (wB opAdd (oE (wB opIxX (oV 0) (oE (wC (.int 0))))) (oE (wC (.int 1)))) wA0)) (gN 9)
  (wSeq (wAsg (wCall 3 sp__law_tick (wAC (wV 0) (wAC (wV 7) (wAC (wV 9) wA0)))) (gT (gCs (gN 10) (gCs (gN 11) gNl))))
  (wSeq (wAsg (wCall 3 sp__law_tick (wAC (wV 1) (wAC (wV 8) (wAC (wV 9) wA0)))) (gT (gCs (gN 12) (gCs (gN 13) gNl))))
  (wSeq (wIfS (wTst (wB (opInX true) (oE (wB opSub (oV 12) (oV 10))) (oV 4)))
  (wSetX 4 (wB opAdd (oV 6) (oE (wTup (wAC (wV 9) wA0)))) (oE (wB opSub (oV 12) (oV 10))))
  wNil)
  (wIfS (wTst (wB (opInX true) (oE (wTup (wAC (wV 11) (wAC (wV 13) wA0)))) (oV 2)))
  (wSeq (wSetX 2 (wC (.bl true)) (oE (wTup (wAC (wV 11) (wAC (wV 13) wA0)))))
  (wApp 5 (wTup (wAC (wB opAdd (oV 6) (oE (wTup (wAC (wV 9) wA0)))) (wAC (wV 11) (wAC (wV 13) wA0))))))
  wNil))))))
  (wSet 3 (wV 5)))))
  (wRet (wMv 4)))))

def wf_law_far (sp__law_tick : FSpec) (sp__law_first : FSpec) : WS :=
  (wSeq (wSet 2 (wCall 1 sp__law_first (wAC (wV 0) wA0)))
  (wSeq (wPr3 3 4 5 (wLC (wDct1 true (wTup (wAC (wV 2) (wAC (wV 2) wA0))) (wC (.bl true))) (wLC (wLst (wAC (wTup (wAC (wV 2) (wAC (wV 2) wA0))) wA0)) (wLC (wC (.int 0)) wL0))))
  (wSeq (wWhile (wTst (wB (opEq true) (oV 4) (oE (wLst wA0))))
  (wSeq (wSet 6 (wLst wA0))
  (wSeq (wFor (iW (wV 4)) (gT (gCs (gN 7) (gCs (gN 8) gNl)))
  (wFor (iR1 (wAC (wB opAdd (oE (wB opIxX (oV 0) (oE (wC (.int 0))))) (oE (wC (.int 1)))) wA0)) (gN 9)
  (wFor (iR2 (wAC (wCB opMax2 (wUC (oE (wC (.int 0))) (wUC (oE (wB opSub (oV 9) (oV 1))) wA0))) (wAC (wB opAdd (oE (wCB opMin2 (wUC (oE (wB opIxX (oV 0) (oE (wC (.int 0))))) (wUC (oE (wB opAdd (oV 9) (oV 1))) wA0)))) (oE (wC (.int 1)))) wA0))) (gN 10)
  (wSeq (wAsg (wCall 3 sp__law_tick (wAC (wV 0) (wAC (wV 7) (wAC (wV 9) wA0)))) (gT (gCs (gN 11) (gCs (gN 12) gNl))))
  (wSeq (wAsg (wCall 3 sp__law_tick (wAC (wV 0) (wAC (wV 8) (wAC (wV 10) wA0)))) (gT (gCs (gN 13) (gCs (gN 14) gNl))))
  (wSeq (wSet 5 (wCB opMax2 (wUC (oV 5) (wUC (oE (wB opSub (oV 13) (oV 11))) wA0))))
  (wIfS (wTst (wB (opInX true) (oE (wTup (wAC (wV 12) (wAC (wV 14) wA0)))) (oV 3)))
  (wSeq (wSetX 3 (wC (.bl true)) (oE (wTup (wAC (wV 12) (wAC (wV 14) wA0)))))
  (wApp 6 (wTup (wAC (wV 12) (wAC (wV 14) wA0)))))
  wNil)))))))
  (wSet 4 (wV 6)))))
  (wRet (wMv 5)))))

def wf_falling_pair (sp_gaps_of : FSpec) (sp_row_to : FSpec) (sp_walked : FSpec) (sp_rising_moves : FSpec) (sp_rows_of : FSpec) (sp_need_chain : FSpec) : WS :=
  (wSeq (wDrop (wCall 1 sp_need_chain (wAC (wV 0) wA0)))
  (wSeq (wPr2 1 2 (wLC (wCall 1 sp_rows_of (wAC (wV 0) wA0)) (wLC (wCall 1 sp_rising_moves (wAC (wB opIxX (oV 0) (oE (wC (.int 0)))) wA0)) wL0)))
  (wSeq (wSet 3 (wCall 3 sp_walked (wAC (wV 1) (wAC (wV 1) (wAC (wV 2) wA0)))))
  (wSeq (wFor (iW (wCall 4 sp_gaps_of (wAC (wV 1) (wAC (wV 1) (wAC (wV 3) (wAC (wV 2) wA0)))))) (gT (gCs (gN 4) (gCs (gN 5) (gCs (gN 6) gNl))))
  (wIfS (wTst (wB opLt (oV 4) (oE (wC (.int 0)))))
  (wSeq (wSet 7 (wB opAdd (oE (wCall 2 sp_row_to (wAC (wV 3) (wAC (wV 5) wA0)))) (oE (wTup (wAC (wV 6) wA0)))))
  (wRet (wTup (wAC (wCB opTuple (wUC (oE (wLc [8, 9] (iW (wV 7)) (gT (gCs (gN 8) (gCs (gN 9) gNl))) wYes (wV 8))) wA0)) (wAC (wCB opTuple (wUC (oE (wLc [8, 9] (iW (wV 7)) (gT (gCs (gN 8) (gCs (gN 9) gNl))) wYes (wV 9))) wA0)) wA0)))))
  wNil))
  (wRet (wC .non))))))

def wf_is_rising (sp_falling_pair : FSpec) : WS :=
  (wRet (wB (opIs false) (oE (wCall 1 sp_falling_pair (wAC (wV 0) wA0))) (oE (wC .non))))

def wf_law_falls (sp__law_tick : FSpec) (sp__law_first : FSpec) : WS :=
  (wSeq (wSet 1 (wCall 1 sp__law_first (wAC (wV 0) wA0)))
  (wSeq (wPr3 2 3 4 (wLC (wDct1 true (wTup (wAC (wV 1) (wAC (wV 1) wA0))) (wC (.bl true))) (wLC (wLst (wAC (wTup (wAC (wV 1) (wAC (wV 1) wA0))) wA0)) (wLC (wC (.int 0)) wL0))))
  (wSeq (wWhile (wTst (wB (opEq true) (oV 3) (oE (wLst wA0))))
  (wSeq (wPr2 4 5 (wLC (wB opAdd (oV 4) (oE (wC (.int 1)))) (wLC (wLst wA0) wL0)))
  (wSeq (wFor (iW (wV 3)) (gT (gCs (gN 6) (gCs (gN 7) gNl)))
  (wFor (iR1 (wAC (wB opAdd (oE (wB opIxX (oV 0) (oE (wC (.int 0))))) (oE (wC (.int 1)))) wA0)) (gN 8)
  (wFor (iR2 (wAC (wV 8) (wAC (wB opAdd (oE (wB opIxX (oV 0) (oE (wC (.int 0))))) (oE (wC (.int 1)))) wA0))) (gN 9)
  (wSeq (wAsg (wCall 3 sp__law_tick (wAC (wV 0) (wAC (wV 6) (wAC (wV 8) wA0)))) (gT (gCs (gN 10) (gCs (gN 11) gNl))))
  (wSeq (wAsg (wCall 3 sp__law_tick (wAC (wV 0) (wAC (wV 7) (wAC (wV 9) wA0)))) (gT (gCs (gN 12) (gCs (gN 13) gNl))))
  (wSeq (wIfS (wTst (wB opLt (oV 12) (oV 10)))
  (wRet (wMv 4))
  wNil)
  (wIfS (wTst (wB (opInX true) (oE (wTup (wAC (wV 11) (wAC (wV 13) wA0)))) (oV 2)))
  (wSeq (wSetX 2 (wC (.bl true)) (oE (wTup (wAC (wV 11) (wAC (wV 13) wA0)))))
  (wApp 5 (wTup (wAC (wV 11) (wAC (wV 13) wA0)))))
  wNil)))))))
  (wSet 3 (wV 5)))))
  (wRet (wC .non)))))

def wf_law_pair_right (sp__law_outs : FSpec) : WS :=
  (wSeq (wIfS (wOr (wNot (wTst (wIsi isTup (oV 1)))) (wOr (wTst (wB (opEq true) (oE (wCB opLenX (wUC (oV 1) wA0))) (oE (wC (.int 2))))) (wNot (wTst (wIsi isTup (oE (wB opIxX (oV 1) (oE (wC (.int 0))))))))))
  (wRet (wC (.bl false)))
  wNil)
  (wSeq (wAsg (wV 1) (gT (gCs (gN 3) (gCs (gN 4) gNl))))
  (wSeq (wIfS (wOr (wNot (wTst (wIsi isTup (oV 4)))) (wOr (wTst (wB (opEq true) (oE (wCB opLenX (wUC (oV 3) wA0))) (oV 2))) (wTst (wB (opEq true) (oE (wCB opLenX (wUC (oV 4) wA0))) (oV 2)))))
  (wRet (wC (.bl false)))
  wNil)
  (wSeq (wIfS (wTst (wB (opEq true) (oE (wLc [5, 6] (iZp (wAC (wV 3) (wAC (wV 4) wA0))) (gT (gCs (gN 5) (gCs (gN 6) gNl))) (wNot (wTst (wCh3 opLe opLe opLe (oE (wC (.int 0))) (oV 5) (oV 6) (oE (wB opIxX (oV 0) (oE (wC (.int 0)))))))) (wC (.int 1)))) (oE (wLst wA0))))
  (wRet (wC (.bl false)))
  wNil)
  (wRet (wB opGt (oE (wB opIxX (oE (wCB opListX (wUC (oE (wCall 2 sp__law_outs (wAC (wV 0) (wAC (wV 3) wA0)))) wA0))) (oE (wC (.int (-1)))))) (oE (wB opIxX (oE (wCB opListX (wUC (oE (wCall 2 sp__law_outs (wAC (wV 0) (wAC (wV 4) wA0)))) wA0))) (oE (wC (.int (-1))))))))))))

def wf_law_k10 (sp_falling_pair : FSpec) (sp_is_rising : FSpec) (sp__law_chain : FSpec) (sp__law_pair_right : FSpec) (sp__law_bool : FSpec) (sp__law_falls : FSpec) (sp__law_deck : FSpec) : WS :=
  (wSeq (wFor (iR1 (wAC (wC (.int 5)) wA0)) (gN 1)
  (wSeq (wPub 2 (wCall 2 sp__law_deck (wAC (wB opIxX (oE (wB opAdd (oV 0) (oE (wB opMul (oE (wLst (wAC (wC (.int 0)) wA0))) (oE (wC (.int 5))))))) (oV 1)) (wAC (wV 1) wA0))))
  (wSeq (wFor (iR1 (wAC (wC (.int 3)) wA0)) (gN 3)
  (wSeq (wSet 4 (wCall 3 sp__law_chain (wAC (wV 2) (wAC (wC (.int 2)) (wAC (wC (.int 2)) wA0)))))
  (wSeq (wPr2 5 6 (wLC (wCall 1 sp__law_falls (wAC (wV 4) wA0)) (wLC (wCall 1 sp_falling_pair (wAC (wV 4) wA0)) wL0)))
  (wSeq (wIfS (wOr (wNot (wTst (wCall 2 sp__law_bool (wAC (wCall 1 sp_is_rising (wAC (wV 4) wA0)) (wAC (wB (opIs false) (oV 5) (oE (wC .non))) wA0))))) (wTst (wB (opEq true) (oE (wB (opIs false) (oV 6) (oE (wC .non)))) (oE (wB (opIs false) (oV 5) (oE (wC .non)))))))
  (wRet (wC (.bl false)))
  wNil)
  (wIfS (wAnd (wTst (wB (opIs true) (oV 6) (oE (wC .non)))) (wNot (wTst (wCall 3 sp__law_pair_right (wAC (wV 4) (wAC (wV 6) (wAC (wV 5) wA0)))))))
  (wRet (wC (.bl false)))
  wNil)))))
  (wSeq (wSet 4 (wCall 3 sp__law_chain (wAC (wV 2) (wAC (wC (.int 4)) (wAC (wC (.int 3)) wA0)))))
  (wIfS (wAnd (wTst (wB (opEq false) (oE (wLc [8] (iW (wB opIxX (oV 4) (oE (wC (.int 2))))) (gN 8) (wTst (wB (opEq false) (oE (wB opIxX (oV 8) (oE (wC (.int 0))))) (oE (wC (.str "hold"))))) (wC (.int 1)))) (oE (wLst wA0)))) (wTst (wB (opIs true) (oE (wCall 1 sp_is_rising (wAC (wV 4) wA0))) (oE (wC (.bl true))))))
  (wRet (wC (.bl false)))
  wNil)))))
  (wSeq (wIfS (wTst (wB (opIs true) (oE (wCall 1 sp_is_rising (wAC (wTup (wAC (wC (.int 1)) (wAC (wC (.int 0)) (wAC (wTup (wAC (wTup (wAC (wC (.str "hold")) (wAC (wC (.int 1)) wA0))) wA0)) wA0)))) wA0))) (oE (wC (.bl false)))))
  (wRet (wC (.bl false)))
  wNil)
  (wSeq (wIfS (wTst (wB (opIs true) (oE (wCall 1 sp_falling_pair (wAC (wTup (wAC (wC (.int 1)) (wAC (wC (.int 0)) (wAC (wTup (wAC (wTup (wAC (wC (.str "slew")) (wAC (wC (.int 1)) (wAC (wC (.int 0)) wA0)))) (wAC (wTup (wAC (wC (.str "hold")) (wAC (wC (.int 2)) wA0))) wA0))) wA0)))) wA0))) (oE (wC .non))))
  (wRet (wC (.bl false)))
  wNil)
  (wSeq (wSet 7 (wCall 1 sp_falling_pair (wAC (wTup (wAC (wC (.int 2)) (wAC (wC (.int 0)) (wAC (wTup (wAC (wTup (wAC (wC (.str "hold")) (wAC (wC (.int 2)) wA0))) wA0)) wA0)))) wA0)))
  (wRet (vAnd (wB (opIs true) (oV 7) (oE (wC .non))) (wB (opEq false) (oE (wLc [9] (iW (wV 7)) (gN 9) wYes (wCB opLenX (wUC (oV 9) wA0)))) (oE (wLst (wAC (wC (.int 2)) (wAC (wC (.int 2)) wA0)))))))))))

def wf_with_start : WS :=
  (wRet (wTup (wAC (wB opIxX (oV 0) (oE (wC (.int 0)))) (wAC (wV 1) (wAC (wB opIxX (oV 0) (oE (wC (.int 2)))) wA0)))))

def wf_starts_of (sp_table_from : FSpec) (sp_first_state : FSpec) (sp_with_start : FSpec) : WS :=
  (wSeq (wSet 1 (wLc [4] (iR1 (wAC (wB opAdd (oE (wB opIxX (oV 0) (oE (wC (.int 0))))) (oE (wC (.int 1)))) wA0)) (gN 4) wYes (wCall 1 sp_first_state (wAC (wCall 2 sp_with_start (wAC (wV 0) (wAC (wV 4) wA0))) wA0))))
  (wSeq (wAsg (wCall 2 sp_table_from (wAC (wV 0) (wAC (wV 1) wA0))) (gT (gCs (gN 2) (gCs (gN 3) gNl))))
  (wRet (wTup (wAC (wV 3) (wAC (wLc [5] (iW (wV 1)) (gN 5) wYes (wB opIxX (oV 2) (oV 5))) wA0))))))

def wf_differs : WS :=
  (wRet (wB (opEq true) (oE (wB opIxX (oE (wB opIxX (oE (wB opIxX (oV 0) (oE (wB opIxX (oV 1) (oE (wC (.int 0))))))) (oV 2))) (oE (wC (.int 0))))) (oE (wB opIxX (oE (wB opIxX (oE (wB opIxX (oV 0) (oE (wB opIxX (oV 1) (oE (wC (.int 1))))))) (oV 2))) (oE (wC (.int 0)))))))

def wf_behind_of : WS :=
  (wRet (wTup (wAC (wB opIxX (oE (wB opIxX (oE (wB opIxX (oV 0) (oE (wB opIxX (oV 1) (oE (wC (.int 0))))))) (oV 2))) (oE (wC (.int 1)))) (wAC (wB opIxX (oE (wB opIxX (oE (wB opIxX (oV 0) (oE (wB opIxX (oV 1) (oE (wC (.int 1))))))) (oV 2))) (oE (wC (.int 1)))) wA0))))

def wf_parts_of (sp_longest_of : FSpec) (sp_telling_pairs : FSpec) (sp_pairs_from : FSpec) (sp_starts_of : FSpec) : WS :=
  (wSeq (wAsg (wCall 1 sp_starts_of (wAC (wV 0) wA0)) (gT (gCs (gN 1) (gCs (gN 2) gNl))))
  (wSeq (wAsg (wCall 2 sp_pairs_from (wAC (wV 1) (wAC (wV 2) wA0))) (gT (gCs (gN 3) (gCs (gN 4) gNl))))
  (wSeq (wSet 5 (wCall 2 sp_telling_pairs (wAC (wV 1) (wAC (wCB opListX (wUC (oV 4) wA0)) wA0))))
  (wRet (wTup (wAC (wV 1) (wAC (wV 3) (wAC (wV 4) (wAC (wV 5) (wAC (wCall 2 sp_longest_of (wAC (wV 1) (wAC (wV 5) wA0))) wA0))))))))))

def wf_law_starts (sp__law_first : FSpec) : WS :=
  (wSeq (wSet 1 (wLc [4] (iR1 (wAC (wB opAdd (oE (wB opIxX (oV 0) (oE (wC (.int 0))))) (oE (wC (.int 1)))) wA0)) (gN 4) wYes (wCall 1 sp__law_first (wAC (wTup (wAC (wB opIxX (oV 0) (oE (wC (.int 0)))) (wAC (wV 4) (wAC (wB opIxX (oV 0) (oE (wC (.int 2)))) wA0)))) wA0))))
  (wSeq (wSet 2 (wLst wA0))
  (wSeq (wFor (iW (wV 1)) (gN 3)
  (wSet 2 (wB opAdd (oV 2) (oE (wLc [5] (iW (wV 1)) (gN 5) (wTst (wB (opEq true) (oV 3) (oV 5))) (wTup (wAC (wV 3) (wAC (wV 5) wA0))))))))
  (wRet (wMv 2)))))

def wf_law_pairs (sp__law_tick : FSpec) (sp__law_starts : FSpec) : WS :=
  (wSeq (wPr2 1 2 (wLC wDct0 (wLC (wCall 1 sp__law_starts (wAC (wV 0) wA0)) wL0)))
  (wSeq (wWhile (wTst (wB (opEq true) (oV 2) (oE (wLst wA0))))
  (wSeq (wSet 3 (wLst wA0))
  (wSeq (wFor (iW (wV 2)) (gN 4)
  (wIfS (wTst (wB (opInX true) (oV 4) (oV 1)))
  (wSeq (wSet 5 (wLst wA0))
  (wSeq (wFor (iR1 (wAC (wB opAdd (oE (wB opIxX (oV 0) (oE (wC (.int 0))))) (oE (wC (.int 1)))) wA0)) (gN 6)
  (wSeq (wAsg (wCall 3 sp__law_tick (wAC (wV 0) (wAC (wB opIxX (oV 4) (oE (wC (.int 0)))) (wAC (wV 6) wA0)))) (gT (gCs (gN 7) (gCs (gN 8) gNl))))
  (wSeq (wAsg (wCall 3 sp__law_tick (wAC (wV 0) (wAC (wB opIxX (oV 4) (oE (wC (.int 1)))) (wAC (wV 6) wA0)))) (gT (gCs (gN 9) (gCs (gN 10) gNl))))
  (wSeq (wApp 5 (wTup (wAC (wB (opEq true) (oV 7) (oV 9)) (wAC (wTup (wAC (wV 8) (wAC (wV 10) wA0))) wA0))))
  (wIfS (wTst (wB (opEq true) (oV 8) (oV 10)))
  (wApp 3 (wTup (wAC (wV 8) (wAC (wV 10) wA0))))
  wNil)))))
  (wSetX 1 (wV 5) (oV 4))))
  wNil))
  (wSet 2 (wV 3)))))
  (wRet (wMv 1))))

def wf_law_telling : WS :=
  (wSeq (wPr2 1 2 (wLC wDct0 (wLC (wC (.bl true)) wL0)))
  (wSeq (wWhile (wTst (wV 2))
  (wSeq (wSet 2 (wC (.bl false)))
  (wFor (iW (wV 0)) (gN 3)
  (wSeq (wSet 4 (wLc [5, 6] (iW (wB opIxX (oV 0) (oV 3))) (gT (gCs (gN 5) (gCs (gN 6) gNl))) (wOr (wTst (wV 5)) (wTst (wB (opInX false) (oV 6) (oV 1)))) (wC (.int 1))))
  (wIfS (wAnd (wTst (wB (opInX true) (oV 3) (oV 1))) (wTst (wB (opEq true) (oV 4) (oE (wLst wA0)))))
  (wSeq (wSetX 1 (wC (.bl true)) (oV 3))
  (wSet 2 (wC (.bl true))))
  wNil)))))
  (wRet (wMv 1))))

def wf_law_k11 (sp_memory : FSpec) (sp__law_last : FSpec) (sp__law_chain : FSpec) (sp__law_pick : FSpec) (sp__law_deck : FSpec) : WS :=
  (wSeq (wFor (iR1 (wAC (wC (.int 5)) wA0)) (gN 1)
  (wSeq (wPub 2 (wCall 2 sp__law_deck (wAC (wB opIxX (oE (wB opAdd (oV 0) (oE (wB opMul (oE (wLst (wAC (wC (.int 0)) wA0))) (oE (wC (.int 5))))))) (oV 1)) (wAC (wV 1) wA0))))
  (wFor (iR1 (wAC (wC (.int 3)) wA0)) (gN 3)
  (wSeq (wSet 4 (wCall 3 sp__law_chain (wAC (wV 2) (wAC (wB opIxX (oE (wLst (wAC (wC (.int 1)) (wAC (wC (.int 2)) (wAC (wC (.int 2)) (wAC (wC (.int 5)) wA0)))))) (oE (wCall 2 sp__law_pick (wAC (wV 2) (wAC (wC (.int 4)) wA0))))) (wAC (wC (.int 2)) wA0)))))
  (wSeq (wIfS (wTst (wB opGt (oE (wB opIxX (oV 4) (oE (wC (.int 0))))) (oE (wC (.int 2)))))
  (wSet 4 (wTup (wAC (wB opIxX (oV 4) (oE (wC (.int 0)))) (wAC (wB opIxX (oV 4) (oE (wC (.int 1)))) (wAC (wSl (oE (wB opIxX (oV 4) (oE (wC (.int 2))))) pN (pS (wC (.int 1)))) wA0)))))
  wNil)
  (wIfS (wTst (wB (opEq true) (oE (wCall 1 sp_memory (wAC (wV 4) wA0))) (oE (wCall 1 sp__law_last (wAC (wV 4) wA0)))))
  (wRet (wC (.bl false)))
  wNil))))))
  (wSeq (wIfS (wOr (wTst (wB (opEq true) (oE (wCall 1 sp_memory (wAC (wTup (wAC (wC (.int 5)) (wAC (wC (.int 0)) (wAC (wTup wA0) wA0)))) wA0))) (oE (wC (.int 0))))) (wTst (wB (opEq true) (oE (wCall 1 sp_memory (wAC (wTup (wAC (wC (.int 3)) (wAC (wC (.int 0)) (wAC (wTup (wAC (wTup (wAC (wC (.str "clip")) (wAC (wC (.int 2)) (wAC (wC (.int 2)) wA0)))) (wAC (wTup (wAC (wC (.str "hold")) (wAC (wC (.int 2)) wA0))) wA0))) wA0)))) wA0))) (oE (wC (.int 0))))))
  (wRet (wC (.bl false)))
  wNil)
  (wSeq (wIfS (wOr (wTst (wB (opEq true) (oE (wCall 1 sp_memory (wAC (wTup (wAC (wC (.int 3)) (wAC (wC (.int 2)) (wAC (wTup (wAC (wTup (wAC (wC (.str "slew")) (wAC (wC (.int 3)) (wAC (wC (.int 1)) wA0)))) wA0)) wA0)))) wA0))) (oE (wC (.int 2))))) (wTst (wB (opIs true) (oE (wCall 1 sp_memory (wAC (wTup (wAC (wC (.int 1)) (wAC (wC (.int 0)) (wAC (wTup (wAC (wTup (wAC (wC (.str "slew")) (wAC (wC (.int 1)) (wAC (wC (.int 0)) wA0)))) wA0)) wA0)))) wA0))) (oE (wC .non)))))
  (wRet (wC (.bl false)))
  wNil)
  (wRet (vAnd (wB (opEq false) (oE (wCall 1 sp_memory (wAC (wTup (wAC (wC (.int 4)) (wAC (wC (.int 0)) (wAC (wTup (wAC (wTup (wAC (wC (.str "slew")) (wAC (wC (.int 4)) (wAC (wC (.int 4)) wA0)))) wA0)) wA0)))) wA0))) (oE (wC (.int 0)))) (wB (opEq false) (oE (wCall 1 sp_memory (wAC (wTup (wAC (wC (.int 2)) (wAC (wC (.int 0)) (wAC (wTup (wAC (wTup (wAC (wC (.str "slew")) (wAC (wC (.int 5)) (wAC (wC (.int 1)) wA0)))) (wAC (wTup (wAC (wC (.str "clip")) (wAC (wC (.int 1)) (wAC (wC (.int 1)) wA0)))) wA0))) wA0)))) wA0))) (oE (wC (.int 0)))))))))

def wf_way_round (sp_behind_of : FSpec) : WS :=
  (wSeq (wPr2 3 4 (wLC wDct0 (wLC (wTup wA0) wL0)))
  (wSeq (wWhile (wTst (wB (opInX true) (oV 2) (oV 3)))
  (wSeq (wSetX 3 (wCB opLenX (wUC (oV 4) wA0)) (oV 2))
  (wSeq (wSet 5 (wLc [6] (iR1 (wAC (wCB opLenX (wUC (oE (wB opIxX (oV 0) (oE (wC (.int 0))))) wA0)) wA0)) (gN 6) (wTst (wB (opInX false) (oE (wCall 3 sp_behind_of (wAC (wV 0) (wAC (wV 2) (wAC (wV 6) wA0))))) (oV 1))) (wV 6)))
  (wPr2 2 4 (wLC (wCall 3 sp_behind_of (wAC (wV 0) (wAC (wV 2) (wAC (wB opIxX (oV 5) (oE (wC (.int 0)))) wA0)))) (wLC (wB opAdd (oV 4) (oE (wTup (wAC (wB opIxX (oV 5) (oE (wC (.int 0)))) wA0)))) wL0))))))
  (wRet (wTup (wAC (wV 2) (wAC (wSl (oV 4) pN (pS (wB opIxX (oV 3) (oV 2)))) (wAC (wSl (oV 4) (pS (wB opIxX (oV 3) (oV 2))) pN) wA0)))))))

def wf_way_out (sp_behind_of : FSpec) (sp_differs : FSpec) : WS :=
  (wSeq (wSet 3 (wTup wA0))
  (wWhile (wTst (wC (.bl true)))
  (wSeq (wSet 4 (wB opIxX (oV 1) (oV 2)))
  (wSeq (wSet 3 (wB opAdd (oV 3) (oE (wTup (wAC (wV 4) wA0)))))
  (wSeq (wIfS (wTst (wCall 3 sp_differs (wAC (wV 0) (wAC (wV 2) (wAC (wV 4) wA0)))))
  (wRet (wMv 3))
  wNil)
  (wSet 2 (wCall 3 sp_behind_of (wAC (wV 0) (wAC (wV 2) (wAC (wV 4) wA0))))))))))

def wf_start_of : WS :=
  (wSeq (wWhile (wTst (wB (opIs true) (oE (wB opIxX (oV 1) (oV 2))) (oE (wC .non))))
  (wSet 2 (wB opIxX (oE (wB opIxX (oV 1) (oV 2))) (oE (wC (.int 0))))))
  (wRet (wB opIxX (oV 0) (oV 2))))

def wf_law_is_levels : WS :=
  (wSeq (wIfS (wOr (wNot (wTst (wIsi isTup (oV 1)))) (wTst (wB opLt (oE (wCB opLenX (wUC (oV 1) wA0))) (oV 2))))
  (wRet (wC (.bl false)))
  wNil)
  (wSeq (wIfS (wTst (wB (opEq true) (oE (wLc [3] (iW (wV 1)) (gN 3) (wOr (wTst (wIsi isBl (oV 3))) (wNot (wTst (wIsi isInt (oV 3))))) (wC (.int 1)))) (oE (wLst wA0))))
  (wRet (wC (.bl false)))
  wNil)
  (wRet (wB (opEq false) (oE (wLc [3] (iW (wV 1)) (gN 3) (wNot (wTst (wCh opLe opLe (oE (wC (.int 0))) (oV 3) (oE (wB opIxX (oV 0) (oE (wC (.int 0)))))))) (wC (.int 1)))) (oE (wLst wA0))))))

def wf_law_shows (sp__law_ran : FSpec) (sp__law_first : FSpec) (sp__law_is_levels : FSpec) : WS :=
  (wSeq (wIfS (wOr (wNot (wTst (wIsi isTup (oV 1)))) (wOr (wTst (wB (opEq true) (oE (wCB opLenX (wUC (oV 1) wA0))) (oE (wC (.int 5))))) (wOr (wNot (wTst (wCall 3 sp__law_is_levels (wAC (wV 0) (wAC (wSl (oV 1) pN (pS (wC (.int 2)))) (wAC (wC (.int 2)) wA0)))))) (wTst (wB (opEq false) (oE (wB opIxX (oV 1) (oE (wC (.int 0))))) (oE (wB opIxX (oV 1) (oE (wC (.int 1))))))))))
  (wRet (wC (.bl false)))
  wNil)
  (wSeq (wAsg (wSl (oV 1) (pS (wC (.int 2))) pN) (gT (gCs (gN 3) (gCs (gN 4) (gCs (gN 5) gNl)))))
  (wSeq (wIfS (wOr (wNot (wTst (wCall 3 sp__law_is_levels (wAC (wV 0) (wAC (wV 3) (wAC (wC (.int 0)) wA0)))))) (wOr (wNot (wTst (wCall 3 sp__law_is_levels (wAC (wV 0) (wAC (wV 4) (wAC (wC (.int 1)) wA0)))))) (wNot (wTst (wCall 3 sp__law_is_levels (wAC (wV 0) (wAC (wV 5) (wAC (wC (.int 1)) wA0))))))))
  (wRet (wC (.bl false)))
  wNil)
  (wSeq (wSet 6 (wB opIxX (oE (wCall 3 sp__law_ran (wAC (wV 0) (wAC (wCall 1 sp__law_first (wAC (wTup (wAC (wB opIxX (oV 0) (oE (wC (.int 0)))) (wAC (wB opIxX (oV 1) (oE (wC (.int 0)))) (wAC (wB opIxX (oV 0) (oE (wC (.int 2)))) wA0)))) wA0)) (wAC (wV 3) wA0))))) (oE (wC (.int 1)))))
  (wSeq (wSet 7 (wB opIxX (oE (wCall 3 sp__law_ran (wAC (wV 0) (wAC (wCall 1 sp__law_first (wAC (wTup (wAC (wB opIxX (oV 0) (oE (wC (.int 0)))) (wAC (wB opIxX (oV 1) (oE (wC (.int 1)))) (wAC (wB opIxX (oV 0) (oE (wC (.int 2)))) wA0)))) wA0)) (wAC (wV 3) wA0))))) (oE (wC (.int 1)))))
  (wSeq (wSet 8 wDct0)
  (wSeq (wFor (iR1 (wAC (wV 2) wA0)) (gN 9)
  (wSeq (wSet 10 (wLc [11] (iW (wTup (wAC (wV 6) (wAC (wV 7) wA0)))) (gN 11) wYes (wCB opListX (wUC (oE (wB opIxX (oE (wCall 3 sp__law_ran (wAC (wV 0) (wAC (wV 11) (wAC (wV 5) wA0))))) (oE (wC (.int 0))))) wA0))))
  (wSeq (wIfS (wTst (wB (opEq false) (oE (wB opIxX (oE (wB opIxX (oV 10) (oE (wC (.int 0))))) (oE (wC (.int (-1)))))) (oE (wB opIxX (oE (wB opIxX (oV 10) (oE (wC (.int 1))))) (oE (wC (.int (-1))))))))
  (wRet (wC (.bl false)))
  wNil)
  (wSeq (wIfS (wTst (wB (opInX false) (oE (wTup (wAC (wV 6) (wAC (wV 7) wA0)))) (oV 8)))
  (wRet (wC (.bl true)))
  wNil)
  (wSeq (wSetX 8 (wC (.bl true)) (oE (wTup (wAC (wV 6) (wAC (wV 7) wA0)))))
  (wPr2 6 7 (wLC (wB opIxX (oE (wCall 3 sp__law_ran (wAC (wV 0) (wAC (wV 6) (wAC (wV 4) wA0))))) (oE (wC (.int 1)))) (wLC (wB opIxX (oE (wCall 3 sp__law_ran (wAC (wV 0) (wAC (wV 7) (wAC (wV 4) wA0))))) (oE (wC (.int 1)))) wL0))))))))
  (wRet (wC (.bl true))))))))))

def wf_law_k12 (sp__law_shows : FSpec) (sp_unforgotten : FSpec) (sp_memory : FSpec) (sp__law_last : FSpec) (sp__law_pairs : FSpec) (sp__law_chain : FSpec) (sp__law_pick : FSpec) (sp__law_deck : FSpec) : WS :=
  (wSeq (wFor (iR1 (wAC (wC (.int 5)) wA0)) (gN 1)
  (wSeq (wPub 2 (wCall 2 sp__law_deck (wAC (wB opIxX (oE (wB opAdd (oV 0) (oE (wB opMul (oE (wLst (wAC (wC (.int 0)) wA0))) (oE (wC (.int 5))))))) (oV 1)) (wAC (wV 1) wA0))))
  (wFor (iR1 (wAC (wC (.int 3)) wA0)) (gN 3)
  (wSeq (wSet 4 (wCall 3 sp__law_chain (wAC (wV 2) (wAC (wB opIxX (oE (wLst (wAC (wC (.int 1)) (wAC (wC (.int 2)) (wAC (wC (.int 2)) (wAC (wC (.int 5)) wA0)))))) (oE (wCall 2 sp__law_pick (wAC (wV 2) (wAC (wC (.int 4)) wA0))))) (wAC (wC (.int 2)) wA0)))))
  (wSeq (wIfS (wTst (wB opGt (oE (wB opIxX (oV 4) (oE (wC (.int 0))))) (oE (wC (.int 2)))))
  (wSet 4 (wTup (wAC (wB opIxX (oV 4) (oE (wC (.int 0)))) (wAC (wB opIxX (oV 4) (oE (wC (.int 1)))) (wAC (wSl (oE (wB opIxX (oV 4) (oE (wC (.int 2))))) pN (pS (wC (.int 1)))) wA0)))))
  wNil)
  (wSeq (wPr2 5 6 (wLC (wCall 1 sp_unforgotten (wAC (wV 4) wA0)) (wLC (wCB opLenX (wUC (oE (wCall 1 sp__law_pairs (wAC (wV 4) wA0))) wA0)) wL0)))
  (wSeq (wIfS (wTst (wB (opEq false) (oE (wB (opIs false) (oV 5) (oE (wC .non)))) (oE (wB (opIs false) (oE (wCall 1 sp__law_last (wAC (wV 4) wA0))) (oE (wC .non))))))
  (wRet (wC (.bl false)))
  wNil)
  (wSeq (wIfS (wAnd (wTst (wB (opIs true) (oV 5) (oE (wC .non)))) (wNot (wTst (wCall 3 sp__law_shows (wAC (wV 4) (wAC (wV 5) (wAC (wB opAdd (oV 6) (oE (wC (.int 2)))) wA0)))))))
  (wRet (wC (.bl false)))
  wNil)
  (wIfS (wAnd (wTst (wB (opIs true) (oV 5) (oE (wC .non)))) (wTst (wB (opIs false) (oE (wCall 1 sp_unforgotten (wAC (wTup (wAC (wB opIxX (oV 4) (oE (wC (.int 0)))) (wAC (wC (.int 0)) (wAC (wB opIxX (oV 4) (oE (wC (.int 2)))) wA0)))) wA0))) (oE (wC .non)))))
  (wRet (wC (.bl false)))
  wNil)))))))))
  (wSeq (wIfS (wOr (wTst (wB (opIs true) (oE (wCall 1 sp_unforgotten (wAC (wTup (wAC (wC (.int 3)) (wAC (wC (.int 0)) (wAC (wTup (wAC (wTup (wAC (wC (.str "slew")) (wAC (wC (.int 3)) (wAC (wC (.int 1)) wA0)))) wA0)) wA0)))) wA0))) (oE (wC .non)))) (wTst (wB (opIs true) (oE (wCall 1 sp_unforgotten (wAC (wTup (wAC (wC (.int 2)) (wAC (wC (.int 2)) (wAC (wTup wA0) wA0)))) wA0))) (oE (wC .non)))))
  (wRet (wC (.bl false)))
  wNil)
  (wSeq (wFor (iW (wLst (wAC (wTup (wAC (wC (.int 2)) (wAC (wC (.int 0)) (wAC (wTup (wAC (wTup (wAC (wC (.str "gate")) (wAC (wC (.int 1)) (wAC (wC (.int 2)) wA0)))) wA0)) wA0)))) (wAC (wTup (wAC (wC (.int 3)) (wAC (wC (.int 0)) (wAC (wTup (wAC (wTup (wAC (wC (.str "slew")) (wAC (wC (.int 1)) (wAC (wC (.int 2)) wA0)))) wA0)) wA0)))) wA0)))) (gN 4)
  (wIfS (wOr (wNot (wTst (wCall 3 sp__law_shows (wAC (wV 4) (wAC (wCall 1 sp_unforgotten (wAC (wV 4) wA0)) (wAC (wC (.int 20)) wA0)))))) (wTst (wB (opIs true) (oE (wCall 1 sp_memory (wAC (wV 4) wA0))) (oE (wC .non)))))
  (wRet (wC (.bl false)))
  wNil))
  (wRet (wC (.bl true))))))

def wf_need_level (sp_is_from : FSpec) : WS :=
  (wIfS (wNot (wTst (wCall 3 sp_is_from (wAC (wV 1) (wAC (wC (.int 0)) (wAC (wB opIxX (oV 0) (oE (wC (.int 0)))) wA0))))))
  wNev
  wNil)

def wf_settled_from : WS :=
  (wSeq (wPr3 3 4 5 (wLC (wLst wA0) (wLC (wLst wA0) (wLC (wC (.int 0)) wL0))))
  (wSeq (wWhile (wTst (wB (opInX true) (oV 1) (oV 4)))
  (wSeq (wSet 4 (wB opAdd (oV 4) (oE (wLst (wAC (wV 1) wA0)))))
  (wSeq (wAsg (wB opIxX (oE (wB opIxX (oV 0) (oV 1))) (oV 2)) (gT (gCs (gN 5) (gCs (gN 1) gNl))))
  (wSet 3 (wB opAdd (oV 3) (oE (wLst (wAC (wV 5) wA0))))))))
  (wSeq (wWhile (wAnd (wTst (wB (opEq true) (oV 3) (oE (wLst wA0)))) (wTst (wB (opEq false) (oE (wB opIxX (oV 3) (oE (wC (.int (-1)))))) (oV 5))))
  (wSet 3 (wSl (oV 3) pN (pS (wC (.int (-1)))))))
  (wRet (wTup (wAC (wCB opTuple (wUC (oV 3) wA0)) (wAC (wV 5) wA0)))))))

def wf_settled_of (sp_settled_from : FSpec) (sp_rows_of : FSpec) : WS :=
  (wRet (wCall 3 sp_settled_from (wAC (wCall 1 sp_rows_of (wAC (wV 0) wA0)) (wAC (wC (.int 0)) (wAC (wV 1) wA0)))))

def wf_settled (sp_settled_of : FSpec) (sp_need_level : FSpec) (sp_need_chain : FSpec) : WS :=
  (wSeq (wDrop (wCall 1 sp_need_chain (wAC (wV 0) wA0)))
  (wSeq (wDrop (wCall 2 sp_need_level (wAC (wV 0) (wAC (wV 1) wA0))))
  (wRet (wCall 2 sp_settled_of (wAC (wV 0) (wAC (wV 1) wA0))))))

def wf_settling (sp_settled_from : FSpec) (sp_rows_of : FSpec) (sp_need_chain : FSpec) : WS :=
  (wSeq (wDrop (wCall 1 sp_need_chain (wAC (wV 0) wA0)))
  (wSeq (wSet 1 (wCall 1 sp_rows_of (wAC (wV 0) wA0)))
  (wSeq (wSet 2 (wC (.int 0)))
  (wSeq (wFor (iR1 (wAC (wCB opLenX (wUC (oV 1) wA0)) wA0)) (gN 3)
  (wFor (iR1 (wAC (wB opAdd (oE (wB opIxX (oV 0) (oE (wC (.int 0))))) (oE (wC (.int 1)))) wA0)) (gN 4)
  (wSet 2 (wCB opMax2 (wUC (oV 2) (wUC (oE (wCB opLenX (wUC (oE (wB opIxX (oE (wCall 3 sp_settled_from (wAC (wV 1) (wAC (wV 3) (wAC (wV 4) wA0))))) (oE (wC (.int 0))))) wA0))) wA0))))))
  (wRet (wMv 2))))))

def wf_follows (sp_settled_from : FSpec) (sp_rows_of : FSpec) (sp_need_chain : FSpec) : WS :=
  (wSeq (wDrop (wCall 1 sp_need_chain (wAC (wV 0) wA0)))
  (wSeq (wSet 1 (wCall 1 sp_rows_of (wAC (wV 0) wA0)))
  (wSeq (wFor (iR1 (wAC (wCB opLenX (wUC (oV 1) wA0)) wA0)) (gN 2)
  (wFor (iR1 (wAC (wB opAdd (oE (wB opIxX (oV 0) (oE (wC (.int 0))))) (oE (wC (.int 1)))) wA0)) (gN 3)
  (wIfS (wTst (wB (opEq true) (oE (wB opIxX (oE (wCall 3 sp_settled_from (wAC (wV 1) (wAC (wV 2) (wAC (wV 3) wA0))))) (oE (wC (.int 1))))) (oV 3)))
  (wRet (wC (.bl false)))
  wNil)))
  (wRet (wC (.bl true))))))

def wf_law_end (sp__law_ran : FSpec) : WS :=
  (wSeq (wSet 4 (wCB opListX (wUC (oE (wB opIxX (oE (wCall 3 sp__law_ran (wAC (wV 0) (wAC (wV 1) (wAC (wB opMul (oE (wTup (wAC (wV 2) wA0))) (oV 3)) wA0))))) (oE (wC (.int 0))))) wA0)))
  (wSeq (wSet 5 (wB opIxX (oV 4) (oE (wC (.int (-1))))))
  (wSeq (wWhile (wAnd (wTst (wB (opEq true) (oV 4) (oE (wLst wA0)))) (wTst (wB (opEq false) (oE (wB opIxX (oV 4) (oE (wC (.int (-1)))))) (oV 5))))
  (wSet 4 (wSl (oV 4) pN (pS (wC (.int (-1)))))))
  (wRet (wTup (wAC (wCB opTuple (wUC (oV 4) wA0)) (wAC (wV 5) wA0)))))))

def wf_need_outputs (sp_are_levels_2 : FSpec) : WS :=
  (wIfS (wNot (wTst (wCall 2 sp_are_levels_2 (wAC (wB opIxX (oV 0) (oE (wC (.int 0)))) (wAC (wV 1) wA0)))))
  wNev
  wNil)

def wf_moves : WS :=
  (wRet (wLc [3, 4] (iEn (wAC (wB opIxX (oV 0) (oV 1)) wA0)) (gT (gCs (gN 3) (gCs (gN 4) gNl))) (wTst (wB (opEq false) (oE (wB opIxX (oV 4) (oE (wC (.int 0))))) (oV 2))) (wTup (wAC (wV 3) (wAC (wB opIxX (oV 4) (oE (wC (.int 1)))) wA0)))))

def wf_can_be (sp_after : FSpec) : WS :=
  (wSeq (wSet 2 (wTup (wAC (wC (.int 0)) wA0)))
  (wSeq (wFor (iW (wV 1)) (gN 3)
  (wSet 2 (wCall 3 sp_after (wAC (wV 0) (wAC (wV 2) (wAC (wV 3) wA0))))))
  (wRet (wB (opEq true) (oV 2) (oE (wTup wA0))))))

def wf_is_possible (sp_can_be : FSpec) (sp_rows_of : FSpec) (sp_need_outputs : FSpec) (sp_need_chain : FSpec) : WS :=
  (wSeq (wDrop (wCall 1 sp_need_chain (wAC (wV 0) wA0)))
  (wSeq (wDrop (wCall 2 sp_need_outputs (wAC (wV 0) (wAC (wV 1) wA0))))
  (wRet (wCall 2 sp_can_be (wAC (wCall 1 sp_rows_of (wAC (wV 0) wA0)) (wAC (wV 1) wA0))))))

def wf_first_signal (sp_moves : FSpec) (sp_good_states : FSpec) (sp_rows_of : FSpec) (sp_need_outputs : FSpec) (sp_need_chain : FSpec) : WS :=
  (wSeq (wDrop (wCall 1 sp_need_chain (wAC (wV 0) wA0)))
  (wSeq (wDrop (wCall 2 sp_need_outputs (wAC (wV 0) (wAC (wV 1) wA0))))
  (wSeq (wSet 2 (wCall 1 sp_rows_of (wAC (wV 0) wA0)))
  (wSeq (wSet 3 (wCall 2 sp_good_states (wAC (wV 2) (wAC (wV 1) wA0))))
  (wSeq (wIfS (wTst (wB (opEq false) (oE (wB opIxX (oV 3) (oE (wC (.int 0))))) (oE (wTup wA0))))
  (wRet (wC .non))
  wNil)
  (wSeq (wPr2 4 5 (wLC (wC (.int 0)) (wLC (wTup wA0) wL0)))
  (wSeq (wFor (iEn (wAC (wV 1) wA0)) (gT (gCs (gN 6) (gCs (gN 7) gNl)))
  (wSeq (wSet 8 (wLc [9, 10] (iW (wCall 3 sp_moves (wAC (wV 2) (wAC (wV 4) (wAC (wV 7) wA0))))) (gT (gCs (gN 9) (gCs (gN 10) gNl))) (wTst (wB (opInX false) (oV 10) (oE (wB opIxX (oV 3) (oE (wB opAdd (oV 6) (oE (wC (.int 1))))))))) (wTup (wAC (wV 9) (wAC (wV 10) wA0)))))
  (wSeq (wAsg (wB opIxX (oV 8) (oE (wC (.int 0)))) (gT (gCs (gN 9) (gCs (gN 4) gNl))))
  (wSet 5 (wB opAdd (oV 5) (oE (wTup (wAC (wV 9) wA0))))))))
  (wRet (wMv 5)))))))))

def wf_law_k15 (sp_count_signals : FSpec) (sp_possible_levels : FSpec) (sp_first_signal : FSpec) (sp_is_possible : FSpec) (sp__law_ways : FSpec) (sp__law_table : FSpec) (sp__law_first : FSpec) (sp__law_outs : FSpec) (sp__law_levels : FSpec) (sp__law_chain : FSpec) (sp__law_pick : FSpec) (sp__law_deck : FSpec) : WS :=
  (wSeq (wFor (iR1 (wAC (wC (.int 5)) wA0)) (gN 1)
  (wSeq (wPub 2 (wCall 2 sp__law_deck (wAC (wB opIxX (oE (wB opAdd (oV 0) (oE (wB opMul (oE (wLst (wAC (wC (.int 0)) wA0))) (oE (wC (.int 5))))))) (oV 1)) (wAC (wV 1) wA0))))
  (wFor (iR1 (wAC (wC (.int 3)) wA0)) (gN 3)
  (wSeq (wSet 4 (wCall 3 sp__law_chain (wAC (wV 2) (wAC (wB opIxX (oE (wLst (wAC (wC (.int 2)) (wAC (wC (.int 3)) wA0)))) (oE (wCall 2 sp__law_pick (wAC (wV 2) (wAC (wC (.int 2)) wA0))))) (wAC (wC (.int 3)) wA0)))))
  (wSeq (wSet 5 (wCall 2 sp__law_outs (wAC (wV 4) (wAC (wCall 3 sp__law_levels (wAC (wV 2) (wAC (wB opIxX (oV 4) (oE (wC (.int 0)))) (wAC (wC (.int 40)) wA0)))) wA0))))
  (wSeq (wSet 6 (wCall 1 sp__law_first (wAC (wV 4) wA0)))
  (wSeq (wSet 7 (wCall 2 sp__law_table (wAC (wV 4) (wAC (wLst (wAC (wV 6) wA0)) wA0))))
  (wSeq (wSet 8 (wCall 3 sp__law_ways (wAC (wV 7) (wAC (wV 6) (wAC (wV 5) wA0)))))
  (wSeq (wIfS (wOr (wTst (wB (opEq true) (oE (wCall 2 sp_count_signals (wAC (wV 4) (wAC (wV 5) wA0)))) (oE (wB opIxX (oE (wB opIxX (oV 8) (oE (wC (.int 0))))) (oV 6))))) (wTst (wB (opIs true) (oE (wCall 2 sp_is_possible (wAC (wV 4) (wAC (wV 5) wA0)))) (oE (wC (.bl true))))))
  (wRet (wC (.bl false)))
  wNil)
  (wSeq (wPr2 9 10 (wLC (wV 6) (wLC (wTup wA0) wL0)))
  (wSeq (wFor (iEn (wAC (wV 5) wA0)) (gT (gCs (gN 11) (gCs (gN 12) gNl)))
  (wSeq (wSet 13 (wLc [14] (iR1 (wAC (wB opAdd (oE (wB opIxX (oV 4) (oE (wC (.int 0))))) (oE (wC (.int 1)))) wA0)) (gN 14) (wTst (wB (opEq false) (oE (wB opIxX (oE (wB opIxX (oE (wB opIxX (oV 7) (oV 9))) (oV 14))) (oE (wC (.int 0))))) (oV 12))) (wV 14)))
  (wSeq (wSet 13 (wLc [14] (iW (wV 13)) (gN 14) (wTst (wB opGt (oE (wB opIxX (oE (wB opIxX (oV 8) (oE (wB opAdd (oV 11) (oE (wC (.int 1))))))) (oE (wB opIxX (oE (wB opIxX (oE (wB opIxX (oV 7) (oV 9))) (oV 14))) (oE (wC (.int 1))))))) (oE (wC (.int 0))))) (wV 14)))
  (wSeq (wSet 10 (wB opAdd (oV 10) (oE (wTup (wAC (wB opIxX (oV 13) (oE (wC (.int 0)))) wA0)))))
  (wSet 9 (wB opIxX (oE (wB opIxX (oE (wB opIxX (oV 7) (oV 9))) (oE (wB opIxX (oV 13) (oE (wC (.int 0))))))) (oE (wC (.int 1)))))))))
  (wSeq (wIfS (wOr (wTst (wB (opEq true) (oE (wCall 2 sp_first_signal (wAC (wV 4) (wAC (wV 5) wA0)))) (oV 10))) (wTst (wB (opEq true) (oE (wCB opLenX (wUC (oE (wCall 2 sp_possible_levels (wAC (wV 4) (wAC (wV 5) wA0)))) wA0))) (oE (wCB opLenX (wUC (oV 5) wA0))))))
  (wRet (wC (.bl false)))
  wNil)
  (wIfS (wTst (wB (opEq true) (oE (wLc [14, 13] (iZp (wAC (wV 10) (wAC (wCall 2 sp_possible_levels (wAC (wV 4) (wAC (wV 5) wA0))) wA0))) (gT (gCs (gN 14) (gCs (gN 13) gNl))) (wTst (wB (opInX true) (oV 14) (oV 13))) (wC (.int 1)))) (oE (wLst wA0))))
  (wRet (wC (.bl false)))
  wNil)))))))))))))
  (wRet (wB (opEq false) (oE (wCall 2 sp_count_signals (wAC (wTup (wAC (wC (.int 5)) (wAC (wC (.int 0)) (wAC (wTup (wAC (wTup (wAC (wC (.str "clip")) (wAC (wC (.int 2)) (wAC (wC (.int 2)) wA0)))) wA0)) wA0)))) (wAC (wB opMul (oE (wTup (wAC (wC (.int 2)) wA0))) (oE (wC (.int 40)))) wA0)))) (oE (wB opPow (oE (wC (.int 6))) (oE (wC (.int 40))))))))

def wf_impossible (sp_after : FSpec) (sp_rows_of : FSpec) (sp_need_chain : FSpec) : WS :=
  (wSeq (wDrop (wCall 1 sp_need_chain (wAC (wV 0) wA0)))
  (wSeq (wSet 1 (wCall 1 sp_rows_of (wAC (wV 0) wA0)))
  (wSeq (wPr2 2 3 (wLC (wDct1 true (wTup (wAC (wC (.int 0)) wA0)) (wC (.bl true))) (wLC (wLst (wAC (wTup (wAC (wTup wA0) (wAC (wTup (wAC (wC (.int 0)) wA0)) wA0))) wA0)) wL0)))
  (wSeq (wWhile (wTst (wB (opEq true) (oV 3) (oE (wLst wA0))))
  (wSeq (wSet 4 (wLst wA0))
  (wSeq (wFor (iW (wV 3)) (gT (gCs (gN 5) (gCs (gN 6) gNl)))
  (wFor (iR1 (wAC (wB opAdd (oE (wB opIxX (oV 0) (oE (wC (.int 0))))) (oE (wC (.int 1)))) wA0)) (gN 7)
  (wSeq (wSet 8 (wCall 3 sp_after (wAC (wV 1) (wAC (wV 6) (wAC (wV 7) wA0)))))
  (wSeq (wIfS (wTst (wB (opEq false) (oV 8) (oE (wTup wA0))))
  (wRet (wB opAdd (oV 5) (oE (wTup (wAC (wV 7) wA0)))))
  wNil)
  (wIfS (wTst (wB (opInX true) (oV 8) (oV 2)))
  (wSeq (wSetX 2 (wC (.bl true)) (oV 8))
  (wApp 4 (wTup (wAC (wB opAdd (oV 5) (oE (wTup (wAC (wV 7) wA0)))) (wAC (wV 8) wA0)))))
  wNil)))))
  (wSet 3 (wV 4)))))
  (wRet (wC .non))))))

def wf_law_none (sp__law_behind : FSpec) (sp__law_first : FSpec) (sp__law_table : FSpec) : WS :=
  (wSeq (wSet 1 (wCall 2 sp__law_table (wAC (wV 0) (wAC (wLst (wAC (wCall 1 sp__law_first (wAC (wV 0) wA0)) wA0)) wA0))))
  (wSeq (wPr2 2 3 (wLC wDct0 (wLC (wLst (wAC (wTup (wAC (wTup wA0) (wAC (wTup (wAC (wCall 1 sp__law_first (wAC (wV 0) wA0)) wA0)) wA0))) wA0)) wL0)))
  (wSeq (wWhile (wTst (wB (opEq true) (oV 3) (oE (wLst wA0))))
  (wSeq (wSet 4 (wLst wA0))
  (wSeq (wFor (iW (wV 3)) (gT (gCs (gN 5) (gCs (gN 6) gNl)))
  (wFor (iR1 (wAC (wB opAdd (oE (wB opIxX (oV 0) (oE (wC (.int 0))))) (oE (wC (.int 1)))) wA0)) (gN 7)
  (wSeq (wSet 8 (wCall 3 sp__law_behind (wAC (wV 1) (wAC (wV 6) (wAC (wV 7) wA0)))))
  (wSeq (wIfS (wTst (wB (opEq false) (oV 8) (oE (wTup wA0))))
  (wRet (wB opAdd (oV 5) (oE (wTup (wAC (wV 7) wA0)))))
  wNil)
  (wIfS (wTst (wB (opInX true) (oV 8) (oV 2)))
  (wSeq (wSetX 2 (wC (.bl true)) (oV 8))
  (wApp 4 (wTup (wAC (wB opAdd (oV 5) (oE (wTup (wAC (wV 7) wA0)))) (wAC (wV 8) wA0)))))
  wNil)))))
  (wSet 3 (wV 4)))))
  (wRet (wC .non)))))

def wf_law_k16 (sp_impossible : FSpec) (sp_is_possible : FSpec) (sp__law_none : FSpec) (sp__law_chain : FSpec) (sp__law_pick : FSpec) (sp__law_deck : FSpec) : WS :=
  (wSeq (wFor (iR1 (wAC (wC (.int 5)) wA0)) (gN 1)
  (wSeq (wPub 2 (wCall 2 sp__law_deck (wAC (wB opIxX (oE (wB opAdd (oV 0) (oE (wB opMul (oE (wLst (wAC (wC (.int 0)) wA0))) (oE (wC (.int 5))))))) (oV 1)) (wAC (wV 1) wA0))))
  (wFor (iR1 (wAC (wC (.int 4)) wA0)) (gN 3)
  (wSeq (wSet 4 (wCall 3 sp__law_chain (wAC (wV 2) (wAC (wB opIxX (oE (wLst (wAC (wC (.int 2)) (wAC (wC (.int 3)) wA0)))) (oE (wCall 2 sp__law_pick (wAC (wV 2) (wAC (wC (.int 2)) wA0))))) (wAC (wC (.int 3)) wA0)))))
  (wSeq (wSet 5 (wCall 1 sp__law_none (wAC (wV 4) wA0)))
  (wSeq (wIfS (wTst (wB (opEq true) (oE (wCall 1 sp_impossible (wAC (wV 4) wA0))) (oV 5)))
  (wRet (wC (.bl false)))
  wNil)
  (wIfS (wAnd (wTst (wB (opIs true) (oV 5) (oE (wC .non)))) (wOr (wTst (wB (opIs true) (oE (wCall 2 sp_is_possible (wAC (wV 4) (wAC (wV 5) wA0)))) (oE (wC (.bl false))))) (wTst (wB (opIs true) (oE (wCall 2 sp_is_possible (wAC (wV 4) (wAC (wSl (oV 5) pN (pS (wC (.int (-1))))) wA0)))) (oE (wC (.bl true)))))))
  (wRet (wC (.bl false)))
  wNil)))))))
  (wSeq (wIfS (wOr (wTst (wB (opIs true) (oE (wCall 1 sp_impossible (wAC (wTup (wAC (wC (.int 5)) (wAC (wC (.int 2)) (wAC (wTup wA0) wA0)))) wA0))) (oE (wC .non)))) (wTst (wB (opEq true) (oE (wCall 1 sp_impossible (wAC (wTup (wAC (wC (.int 5)) (wAC (wC (.int 0)) (wAC (wTup (wAC (wTup (wAC (wC (.str "gate")) (wAC (wC (.int 0)) (wAC (wC (.int 3)) wA0)))) wA0)) wA0)))) wA0))) (oE (wTup (wAC (wC (.int 1)) wA0))))))
  (wRet (wC (.bl false)))
  wNil)
  (wRet (vAnd (wB (opEq false) (oE (wCall 1 sp_impossible (wAC (wTup (wAC (wC (.int 2)) (wAC (wC (.int 0)) (wAC (wTup (wAC (wTup (wAC (wC (.str "hold")) (wAC (wC (.int 1)) wA0))) wA0)) wA0)))) wA0))) (oE (wTup (wAC (wC (.int 1)) (wAC (wC (.int 0)) wA0))))) (wB (opEq false) (oE (wCall 1 sp_impossible (wAC (wTup (wAC (wC (.int 3)) (wAC (wC (.int 3)) (wAC (wTup (wAC (wTup (wAC (wC (.str "slew")) (wAC (wC (.int 0)) (wAC (wC (.int 1)) wA0)))) wA0)) wA0)))) wA0))) (oE (wTup (wAC (wC (.int 0)) wA0))))))))

def wf_without : WS :=
  (wRet (wTup (wAC (wB opIxX (oV 0) (oE (wC (.int 0)))) (wAC (wB opIxX (oV 0) (oE (wC (.int 1)))) (wAC (wB opAdd (oE (wSl (oE (wB opIxX (oV 0) (oE (wC (.int 2))))) pN (pS (wV 1)))) (oE (wSl (oE (wB opIxX (oV 0) (oE (wC (.int 2))))) (pS (wB opAdd (oV 1) (oE (wC (.int 1))))) pN))) wA0)))))

def wf_redundant_stages (sp_same_for_all : FSpec) (sp_without : FSpec) (sp_need_chain : FSpec) : WS :=
  (wSeq (wDrop (wCall 1 sp_need_chain (wAC (wV 0) wA0)))
  (wRet (wLc [1] (iR1 (wAC (wCB opLenX (wUC (oE (wB opIxX (oV 0) (oE (wC (.int 2))))) wA0)) wA0)) (gN 1) (wTst (wCall 2 sp_same_for_all (wAC (wV 0) (wAC (wCall 2 sp_without (wAC (wV 0) (wAC (wV 1) wA0))) wA0)))) (wV 1))))

def wf_single_slew (sp_same_for_all : FSpec) (sp_need_chain : FSpec) : WS :=
  (wSeq (wDrop (wCall 1 sp_need_chain (wAC (wV 0) wA0)))
  (wSeq (wFor (iR1 (wAC (wB opAdd (oE (wC (.int 5))) (oE (wC (.int 1)))) wA0)) (gN 1)
  (wFor (iR1 (wAC (wB opAdd (oE (wC (.int 5))) (oE (wC (.int 1)))) wA0)) (gN 2)
  (wIfS (wTst (wCall 2 sp_same_for_all (wAC (wV 0) (wAC (wTup (wAC (wB opIxX (oV 0) (oE (wC (.int 0)))) (wAC (wB opIxX (oV 0) (oE (wC (.int 1)))) (wAC (wTup (wAC (wTup (wAC (wC (.str "slew")) (wAC (wV 1) (wAC (wV 2) wA0)))) wA0)) wA0)))) wA0))))
  (wRet (wTup (wAC (wV 1) (wAC (wV 2) wA0))))
  wNil)))
  (wRet (wC .non))))

def wf_exchanged : WS :=
  (wSeq (wSet 2 (wB opIxX (oV 0) (oE (wC (.int 2)))))
  (wSeq (wSet 3 (wB opAdd (oE (wB opAdd (oE (wSl (oV 2) pN (pS (wV 1)))) (oE (wTup (wAC (wB opIxX (oV 2) (oE (wB opAdd (oV 1) (oE (wC (.int 1)))))) (wAC (wB opIxX (oV 2) (oV 1)) wA0)))))) (oE (wSl (oV 2) (pS (wB opAdd (oV 1) (oE (wC (.int 2))))) pN))))
  (wRet (wTup (wAC (wB opIxX (oV 0) (oE (wC (.int 0)))) (wAC (wB opIxX (oV 0) (oE (wC (.int 1)))) (wAC (wV 3) wA0)))))))

def wf_exchangeable (sp_same_for_all : FSpec) (sp_exchanged : FSpec) (sp_need_chain : FSpec) : WS :=
  (wSeq (wDrop (wCall 1 sp_need_chain (wAC (wV 0) wA0)))
  (wRet (wLc [1] (iR1 (wAC (wB opSub (oE (wCB opLenX (wUC (oE (wB opIxX (oV 0) (oE (wC (.int 2))))) wA0))) (oE (wC (.int 1)))) wA0)) (gN 1) (wTst (wCall 2 sp_same_for_all (wAC (wV 0) (wAC (wCall 2 sp_exchanged (wAC (wV 0) (wAC (wV 1) wA0))) wA0)))) (wV 1))))

def wf_law_like (sp__law_parts_at : FSpec) : WS :=
  (wRet (wB (opIs false) (oE (wCall 2 sp__law_parts_at (wAC (wV 0) (wAC (wV 1) wA0)))) (oE (wC .non))))

def wf_law_written (sp_single_slew : FSpec) (sp_exchangeable : FSpec) (sp_redundant_stages : FSpec) : WS :=
  (wSeq (wSet 0 (wTup (wAC (wC (.int 5)) (wAC (wC (.int 0)) (wAC (wTup (wAC (wTup (wAC (wC (.str "slew")) (wAC (wC (.int 1)) (wAC (wC (.int 5)) wA0)))) (wAC (wTup (wAC (wC (.str "slew")) (wAC (wC (.int 5)) (wAC (wC (.int 1)) wA0)))) wA0))) wA0)))))
  (wSeq (wIfS (wOr (wTst (wB (opEq true) (oE (wCall 1 sp_exchangeable (wAC (wV 0) wA0))) (oE (wLst wA0)))) (wOr (wTst (wB (opEq true) (oE (wCall 1 sp_redundant_stages (wAC (wV 0) wA0))) (oE (wLst wA0)))) (wTst (wB (opIs true) (oE (wCall 1 sp_single_slew (wAC (wV 0) wA0))) (oE (wC .non))))))
  (wRet (wC (.bl false)))
  wNil)
  (wSeq (wIfS (wTst (wB (opEq true) (oE (wCall 1 sp_single_slew (wAC (wTup (wAC (wC (.int 3)) (wAC (wC (.int 0)) (wAC (wTup (wAC (wTup (wAC (wC (.str "slew")) (wAC (wC (.int 1)) (wAC (wC (.int 2)) wA0)))) wA0)) wA0)))) wA0))) (oE (wTup (wAC (wC (.int 1)) (wAC (wC (.int 2)) wA0))))))
  (wRet (wC (.bl false)))
  wNil)
  (wSeq (wSet 1 (wTup (wAC (wC (.int 5)) (wAC (wC (.int 0)) (wAC (wTup (wAC (wTup (wAC (wC (.str "slew")) (wAC (wC (.int 1)) (wAC (wC (.int 1)) wA0)))) (wAC (wTup (wAC (wC (.str "slew")) (wAC (wC (.int 1)) (wAC (wC (.int 1)) wA0)))) wA0))) wA0)))))
  (wSeq (wIfS (wOr (wTst (wB (opEq true) (oE (wCall 1 sp_redundant_stages (wAC (wV 1) wA0))) (oE (wLst (wAC (wC (.int 0)) (wAC (wC (.int 1)) wA0)))))) (wOr (wTst (wB (opEq true) (oE (wCall 1 sp_exchangeable (wAC (wV 1) wA0))) (oE (wLst (wAC (wC (.int 0)) wA0))))) (wTst (wB (opEq true) (oE (wCall 1 sp_single_slew (wAC (wV 1) wA0))) (oE (wTup (wAC (wC (.int 1)) (wAC (wC (.int 1)) wA0))))))))
  (wRet (wC (.bl false)))
  wNil)
  (wSeq (wSet 2 (wTup (wAC (wTup (wAC (wC (.str "clip")) (wAC (wC (.int 1)) (wAC (wC (.int 3)) wA0)))) (wAC (wTup (wAC (wC (.str "clip")) (wAC (wC (.int 0)) (wAC (wC (.int 2)) wA0)))) (wAC (wTup (wAC (wC (.str "clip")) (wAC (wC (.int 2)) (wAC (wC (.int 2)) wA0)))) wA0)))))
  (wRet (vAnd (wB (opEq false) (oE (wCall 1 sp_single_slew (wAC (wTup (wAC (wC (.int 2)) (wAC (wC (.int 1)) (wAC (wTup wA0) wA0)))) wA0))) (oE (wTup (wAC (wC (.int 2)) (wAC (wC (.int 2)) wA0))))) (wB (opEq false) (oE (wCall 1 sp_exchangeable (wAC (wTup (wAC (wC (.int 5)) (wAC (wC (.int 0)) (wAC (wV 2) wA0)))) wA0))) (oE (wLst (wAC (wC (.int 0)) (wAC (wC (.int 1)) wA0)))))))))))))

def wf_law_k19 (sp__law_written : FSpec) (sp_single_slew : FSpec) (sp__law_like : FSpec) (sp_exchangeable : FSpec) (sp_redundant_stages : FSpec) (sp__law_pick : FSpec) (sp__law_chain : FSpec) (sp__law_deck : FSpec) : WS :=
  (wSeq (wFor (iR1 (wAC (wC (.int 5)) wA0)) (gN 1)
  (wSeq (wPub 2 (wCall 2 sp__law_deck (wAC (wB opIxX (oE (wB opAdd (oV 0) (oE (wB opMul (oE (wLst (wAC (wC (.int 0)) wA0))) (oE (wC (.int 5))))))) (oV 1)) (wAC (wV 1) wA0))))
  (wFor (iR1 (wAC (wC (.int 3)) wA0)) (gN 3)
  (wSeq (wSet 4 (wCall 3 sp__law_chain (wAC (wV 2) (wAC (wB opIxX (oE (wLst (wAC (wC (.int 2)) (wAC (wC (.int 3)) wA0)))) (oE (wCall 2 sp__law_pick (wAC (wV 2) (wAC (wC (.int 2)) wA0))))) (wAC (wC (.int 3)) wA0)))))
  (wSeq (wIfS (wTst (wB (opEq false) (oE (wCall 2 sp__law_pick (wAC (wV 2) (wAC (wC (.int 3)) wA0)))) (oE (wC (.int 0)))))
  (wSeq (wSet 5 (wTup (wAC (wC (.str "slew")) (wAC (wCall 2 sp__law_pick (wAC (wV 2) (wAC (wC (.int 4)) wA0))) (wAC (wCall 2 sp__law_pick (wAC (wV 2) (wAC (wC (.int 4)) wA0))) wA0)))))
  (wSet 4 (wTup (wAC (wB opIxX (oV 4) (oE (wC (.int 0)))) (wAC (wB opIxX (oV 4) (oE (wC (.int 1)))) (wAC (wTup (wAC (wV 5) (wAC (wTup (wAC (wC (.str "slew")) (wAC (wCall 2 sp__law_pick (wAC (wV 2) (wAC (wC (.int 6)) wA0))) (wAC (wCall 2 sp__law_pick (wAC (wV 2) (wAC (wC (.int 6)) wA0))) wA0)))) wA0))) wA0))))))
  wNil)
  (wSeq (wAsg (wV 4) (gT (gCs (gN 6) (gCs (gN 7) (gCs (gN 8) gNl)))))
  (wSeq (wSet 9 (wLst wA0))
  (wSeq (wFor (iR1 (wAC (wCB opLenX (wUC (oV 8) wA0)) wA0)) (gN 10)
  (wIfS (wTst (wCall 2 sp__law_like (wAC (wV 4) (wAC (wTup (wAC (wV 6) (wAC (wV 7) (wAC (wB opAdd (oE (wSl (oV 8) pN (pS (wV 10)))) (oE (wSl (oV 8) (pS (wB opAdd (oV 10) (oE (wC (.int 1))))) pN))) wA0)))) wA0))))
  (wApp 9 (wV 10))
  wNil))
  (wSeq (wIfS (wTst (wB (opEq true) (oE (wCall 1 sp_redundant_stages (wAC (wV 4) wA0))) (oV 9)))
  (wRet (wC (.bl false)))
  wNil)
  (wSeq (wSet 9 (wLst wA0))
  (wSeq (wFor (iR1 (wAC (wB opSub (oE (wCB opLenX (wUC (oV 8) wA0))) (oE (wC (.int 1)))) wA0)) (gN 10)
  (wSeq (wSet 11 (wB opAdd (oE (wB opAdd (oE (wSl (oV 8) pN (pS (wV 10)))) (oE (wTup (wAC (wB opIxX (oV 8) (oE (wB opAdd (oV 10) (oE (wC (.int 1)))))) (wAC (wB opIxX (oV 8) (oV 10)) wA0)))))) (oE (wSl (oV 8) (pS (wB opAdd (oV 10) (oE (wC (.int 2))))) pN))))
  (wIfS (wTst (wCall 2 sp__law_like (wAC (wV 4) (wAC (wTup (wAC (wV 6) (wAC (wV 7) (wAC (wV 11) wA0)))) wA0))))
  (wApp 9 (wV 10))
  wNil)))
  (wSeq (wIfS (wTst (wB (opEq true) (oE (wCall 1 sp_exchangeable (wAC (wV 4) wA0))) (oV 9)))
  (wRet (wC (.bl false)))
  wNil)
  (wSeq (wSet 12 (wLst wA0))
  (wSeq (wFor (iR1 (wAC (wC (.int 6)) wA0)) (gN 13)
  (wFor (iR1 (wAC (wC (.int 6)) wA0)) (gN 14)
  (wIfS (wAnd (wTst (wB (opEq false) (oV 12) (oE (wLst wA0)))) (wTst (wCall 2 sp__law_like (wAC (wV 4) (wAC (wTup (wAC (wV 6) (wAC (wV 7) (wAC (wTup (wAC (wTup (wAC (wC (.str "slew")) (wAC (wV 13) (wAC (wV 14) wA0)))) wA0)) wA0)))) wA0)))))
  (wApp 12 (wTup (wAC (wV 13) (wAC (wV 14) wA0))))
  wNil)))
  (wIfS (wTst (wB (opEq true) (oE (wCall 1 sp_single_slew (wAC (wV 4) wA0))) (oE (wIf (wTst (wB (opEq true) (oV 12) (oE (wLst wA0)))) (wB opIxX (oV 12) (oE (wC (.int 0)))) (wC .non)))))
  (wRet (wC (.bl false)))
  wNil)))))))))))))))
  (wRet (wCall 0 sp__law_written wA0)))

def wf_need_chains (sp_is_chain_of : FSpec) : WS :=
  (wSeq (wIfS (wOr (wNot (wTst (wIsi isTup (oV 0)))) (wNot (wTst (wCh opLe opLe (oE (wC (.int 1))) (oE (wCB opLenX (wUC (oV 0) wA0))) (oE (wC (.int 4)))))))
  wNev
  wNil)
  (wSeq (wIfS (wNot (wTst (wCB opAll (wUC (oE (wLc [1] (iW (wV 0)) (gN 1) wYes (wCall 1 sp_is_chain_of (wAC (wV 1) wA0)))) wA0))))
  wNev
  wNil)
  (wIfS (wTst (wB (opEq true) (oE (wLc [1] (iW (wV 0)) (gN 1) (wTst (wB (opEq true) (oE (wB opIxX (oV 1) (oE (wC (.int 0))))) (oE (wB opIxX (oE (wB opIxX (oV 0) (oE (wC (.int 0))))) (oE (wC (.int 0))))))) (wV 1))) (oE (wLst wA0))))
  wNev
  wNil)))

def wf_fitting (sp_run : FSpec) (sp_first_state : FSpec) (sp_is_from : FSpec) (sp_need_signal : FSpec) (sp_need_chains : FSpec) : WS :=
  (wSeq (wDrop (wCall 1 sp_need_chains (wAC (wV 0) wA0)))
  (wSeq (wDrop (wCall 2 sp_need_signal (wAC (wB opIxX (oV 0) (oE (wC (.int 0)))) (wAC (wV 1) wA0))))
  (wSeq (wIfS (wOr (wNot (wTst (wIsi isTup (oV 2)))) (wTst (wB (opEq true) (oE (wCB opLenX (wUC (oV 2) wA0))) (oE (wCB opLenX (wUC (oV 1) wA0))))))
  wNev
  wNil)
  (wSeq (wIfS (wNot (wTst (wCB opAll (wUC (oE (wLc [7] (iW (wV 2)) (gN 7) wYes (vOr (wB (opIs false) (oV 7) (oE (wC .non))) (wCall 3 sp_is_from (wAC (wV 7) (wAC (wC (.int 0)) (wAC (wB opIxX (oE (wB opIxX (oV 0) (oE (wC (.int 0))))) (oE (wC (.int 0)))) wA0))))))) wA0))))
  wNev
  wNil)
  (wSeq (wSet 3 (wLst wA0))
  (wSeq (wFor (iEn (wAC (wV 0) wA0)) (gT (gCs (gN 4) (gCs (gN 5) gNl)))
  (wSeq (wSet 6 (wB opIxX (oE (wCall 3 sp_run (wAC (wB opIxX (oV 5) (oE (wC (.int 2)))) (wAC (wCall 1 sp_first_state (wAC (wV 5) wA0)) (wAC (wV 1) wA0))))) (oE (wC (.int 0)))))
  (wIfS (wTst (wCB opAll (wUC (oE (wLc [7, 8] (iZp (wAC (wV 2) (wAC (wV 6) wA0))) (gT (gCs (gN 7) (gCs (gN 8) gNl))) wYes (vOr (wB (opIs false) (oV 7) (oE (wC .non))) (wB (opEq false) (oV 7) (oV 8))))) wA0)))
  (wApp 3 (wV 4))
  wNil)))
  (wRet (wMv 3))))))))

def wf_pairs_of (sp_same_for_all : FSpec) : WS :=
  (wSeq (wSet 1 (wLst wA0))
  (wSeq (wFor (iEn (wAC (wV 0) wA0)) (gT (gCs (gN 2) (gCs (gN 3) gNl)))
  (wFor (iR2 (wAC (wB opAdd (oV 2) (oE (wC (.int 1)))) (wAC (wCB opLenX (wUC (oV 0) wA0)) wA0))) (gN 4)
  (wIfS (wNot (wTst (wCall 2 sp_same_for_all (wAC (wV 3) (wAC (wB opIxX (oV 0) (oV 4)) wA0)))))
  (wApp 1 (wTup (wAC (wV 2) (wAC (wV 4) wA0))))
  wNil)))
  (wRet (wCB opTuple (wUC (oV 1) wA0)))))

def wf_telling_signal (sp_pairs_of : FSpec) (sp_rows_of : FSpec) (sp_need_chains : FSpec) : WS :=
  (wSeq (wDrop (wCall 1 sp_need_chains (wAC (wV 0) wA0)))
  (wSeq (wSet 1 (wLc [14] (iW (wV 0)) (gN 14) wYes (wCall 1 sp_rows_of (wAC (wV 14) wA0))))
  (wSeq (wSet 2 (wTup (wAC (wCB opTuple (wUC (oE (wLc [14] (iW (wV 0)) (gN 14) wYes (wC (.int 0)))) wA0)) (wAC (wCall 1 sp_pairs_of (wAC (wV 0) wA0)) wA0))))
  (wSeq (wPr2 3 4 (wLC (wDct1 true (wV 2) (wC (.bl true))) (wLC (wLst (wAC (wTup (wAC (wTup wA0) (wAC (wV 2) wA0))) wA0)) wL0)))
  (wSeq (wFor (iR1 (wAC (wB opAdd (oE (wC (.int 6))) (oE (wC (.int 1)))) wA0)) (gN 5)
  (wSeq (wSet 6 (wLst wA0))
  (wSeq (wFor (iW (wV 4)) (gT (gCs (gN 7) (gCs (gT (gCs (gN 8) (gCs (gN 9) gNl))) gNl)))
  (wSeq (wIfS (wTst (wB (opEq false) (oV 9) (oE (wTup wA0))))
  (wRet (wMv 7))
  wNil)
  (wFor (iR1 (wAC (wB opAdd (oE (wB opIxX (oE (wB opIxX (oV 0) (oE (wC (.int 0))))) (oE (wC (.int 0))))) (oE (wC (.int 1)))) wA0)) (gN 10)
  (wSeq (wSet 11 (wLc [15, 16] (iZp (wAC (wV 1) (wAC (wV 8) wA0))) (gT (gCs (gN 15) (gCs (gN 16) gNl))) wYes (wB opIxX (oE (wB opIxX (oV 15) (oV 16))) (oV 10))))
  (wSeq (wSet 12 (wCB opTuple (wUC (oE (wLc [17] (iW (wV 9)) (gN 17) (wTst (wB (opEq false) (oE (wB opIxX (oE (wB opIxX (oV 11) (oE (wB opIxX (oV 17) (oE (wC (.int 0))))))) (oE (wC (.int 0))))) (oE (wB opIxX (oE (wB opIxX (oV 11) (oE (wB opIxX (oV 17) (oE (wC (.int 1))))))) (oE (wC (.int 0))))))) (wV 17))) wA0)))
  (wSeq (wSet 13 (wTup (wAC (wCB opTuple (wUC (oE (wLc [18, 19] (iW (wV 11)) (gT (gCs (gN 18) (gCs (gN 19) gNl))) wYes (wV 19))) wA0)) (wAC (wV 12) wA0))))
  (wIfS (wTst (wB (opInX true) (oV 13) (oV 3)))
  (wSeq (wSetX 3 (wC (.bl true)) (oV 13))
  (wApp 6 (wTup (wAC (wB opAdd (oV 7) (oE (wTup (wAC (wV 10) wA0)))) (wAC (wV 13) wA0)))))
  wNil)))))))
  (wSet 4 (wV 6)))))
  (wRet (wC .non)))))))

def wf_is_sighting (sp_are_levels_2 : FSpec) : WS :=
  (wSeq (wIfS (wOr (wNot (wTst (wIsi isTup (oV 1)))) (wTst (wB (opEq true) (oE (wCB opLenX (wUC (oV 1) wA0))) (oE (wC (.int 2))))))
  (wRet (wC (.bl false)))
  wNil)
  (wRet (vAnd (wCall 2 sp_are_levels_2 (wAC (wV 0) (wAC (wB opIxX (oV 1) (oE (wC (.int 0)))) wA0))) (vAnd (wCall 2 sp_are_levels_2 (wAC (wV 0) (wAC (wB opIxX (oV 1) (oE (wC (.int 1)))) wA0))) (wB (opEq false) (oE (wCB opLenX (wUC (oE (wB opIxX (oV 1) (oE (wC (.int 0))))) wA0))) (oE (wCB opLenX (wUC (oE (wB opIxX (oV 1) (oE (wC (.int 1))))) wA0))))))))

def wf_slews_for (sp_run : FSpec) (sp_is_sighting : FSpec) (sp_is_from : FSpec) : WS :=
  (wSeq (wIfS (wOr (wNot (wTst (wCall 3 sp_is_from (wAC (wV 0) (wAC (wC (.int 1)) (wAC (wC (.int 5)) wA0)))))) (wNot (wTst (wCall 3 sp_is_from (wAC (wV 1) (wAC (wC (.int 0)) (wAC (wV 0) wA0)))))))
  wNev
  wNil)
  (wSeq (wIfS (wOr (wNot (wTst (wIsi isTup (oV 2)))) (wOr (wTst (wB opGt (oE (wCB opLenX (wUC (oV 2) wA0))) (oE (wC (.int 6))))) (wNot (wTst (wCB opAll (wUC (oE (wLc [7] (iW (wV 2)) (gN 7) wYes (wCall 2 sp_is_sighting (wAC (wV 0) (wAC (wV 7) wA0))))) wA0))))))
  wNev
  wNil)
  (wSeq (wSet 3 (wLst wA0))
  (wSeq (wFor (iR1 (wAC (wB opAdd (oE (wC (.int 5))) (oE (wC (.int 1)))) wA0)) (gN 4)
  (wFor (iR1 (wAC (wB opAdd (oE (wC (.int 5))) (oE (wC (.int 1)))) wA0)) (gN 5)
  (wSeq (wSet 6 (wTup (wAC (wTup (wAC (wC (.str "slew")) (wAC (wV 4) (wAC (wV 5) wA0)))) wA0)))
  (wIfS (wTst (wCB opAll (wUC (oE (wLc [8, 9] (iW (wV 2)) (gT (gCs (gN 8) (gCs (gN 9) gNl))) wYes (wB (opEq false) (oE (wB opIxX (oE (wCall 3 sp_run (wAC (wV 6) (wAC (wTup (wAC (wV 1) wA0)) (wAC (wV 8) wA0))))) (oE (wC (.int 0))))) (oV 9)))) wA0)))
  (wApp 3 (wTup (wAC (wV 4) (wAC (wV 5) wA0))))
  wNil))))
  (wRet (wMv 3))))))

def wf_law_tells (sp__law_outs : FSpec) : WS :=
  (wSeq (wSet 3 (wLc [4] (iW (wV 0)) (gN 4) wYes (wCall 2 sp__law_outs (wAC (wV 4) (wAC (wV 2) wA0)))))
  (wRet (wB (opEq false) (oE (wLc [5, 6] (iW (wV 1)) (gT (gCs (gN 5) (gCs (gN 6) gNl))) (wTst (wB (opEq false) (oE (wB opIxX (oV 3) (oV 5))) (oE (wB opIxX (oV 3) (oV 6))))) (wC (.int 1)))) (oE (wLst wA0)))))

def wf_law_telling_v2 (sp__law_all_levels : FSpec) (sp__law_tells : FSpec) (sp__law_parts_at : FSpec) : WS :=
  (wSeq (wSet 1 (wLst wA0))
  (wSeq (wFor (iR1 (wAC (wCB opLenX (wUC (oV 0) wA0)) wA0)) (gN 2)
  (wFor (iR1 (wAC (wV 2) wA0)) (gN 3)
  (wIfS (wTst (wB (opIs true) (oE (wCall 2 sp__law_parts_at (wAC (wB opIxX (oV 0) (oV 2)) (wAC (wB opIxX (oV 0) (oV 3)) wA0)))) (oE (wC .non))))
  (wApp 1 (wTup (wAC (wV 2) (wAC (wV 3) wA0))))
  wNil)))
  (wSeq (wFor (iR1 (wAC (wC (.int 7)) wA0)) (gN 4)
  (wFor (iW (wCall 2 sp__law_all_levels (wAC (wB opIxX (oE (wB opIxX (oV 0) (oE (wC (.int 0))))) (oE (wC (.int 0)))) (wAC (wV 4) wA0)))) (gN 5)
  (wIfS (wTst (wCallU 3 sp__law_tells (wUC (oV 0) (wUC (oV 1) (wUC (oV 5) wA0)))))
  (wRet (wMv 5))
  wNil)))
  (wRet (wC .non)))))

def wf_law_k20 (sp_slews_for : FSpec) (sp_telling_signal : FSpec) (sp__law_fitting_right : FSpec) (sp__law_slews_right : FSpec) (sp__law_telling : FSpec) (sp__law_bent : FSpec) (sp__law_chain : FSpec) (sp__law_deck : FSpec) : WS :=
  (wSeq (wFor (iR1 (wAC (wC (.int 5)) wA0)) (gN 1)
  (wSeq (wPub 2 (wCall 2 sp__law_deck (wAC (wB opIxX (oE (wB opAdd (oV 0) (oE (wB opMul (oE (wLst (wAC (wC (.int 0)) wA0))) (oE (wC (.int 5))))))) (oV 1)) (wAC (wV 1) wA0))))
  (wSeq (wSet 3 (wCall 3 sp__law_chain (wAC (wV 2) (wAC (wC (.int 2)) (wAC (wC (.int 2)) wA0)))))
  (wSeq (wSet 4 (wTup (wAC (wV 3) (wAC (wCall 2 sp__law_bent (wAC (wV 2) (wAC (wV 3) wA0))) (wAC (wCall 2 sp__law_bent (wAC (wV 2) (wAC (wV 3) wA0))) wA0)))))
  (wSeq (wIfS (wTst (wB (opEq false) (oE (wB opIxX (oV 3) (oE (wC (.int 0))))) (oE (wC (.int 2)))))
  (wSet 4 (wSl (oV 4) pN (pS (wC (.int 2)))))
  wNil)
  (wSeq (wIfS (wTst (wB (opEq true) (oE (wCall 1 sp_telling_signal (wAC (wV 4) wA0))) (oE (wCall 1 sp__law_telling (wAC (wV 4) wA0)))))
  (wRet (wC (.bl false)))
  wNil)
  (wIfS (wOr (wNot (wTst (wCall 1 sp__law_fitting_right (wAC (wV 2) wA0)))) (wNot (wTst (wCall 1 sp__law_slews_right (wAC (wV 2) wA0)))))
  (wRet (wC (.bl false)))
  wNil)))))))
  (wSeq (wIfS (wTst (wB (opEq true) (oE (wCall 1 sp_telling_signal (wAC (wTup (wAC (wTup (wAC (wC (.int 5)) (wAC (wC (.int 0)) (wAC (wTup (wAC (wTup (wAC (wC (.str "slew")) (wAC (wC (.int 1)) (wAC (wC (.int 5)) wA0)))) wA0)) wA0)))) (wAC (wTup (wAC (wC (.int 5)) (wAC (wC (.int 0)) (wAC (wTup (wAC (wTup (wAC (wC (.str "slew")) (wAC (wC (.int 1)) (wAC (wC (.int 4)) wA0)))) wA0)) wA0)))) wA0))) wA0))) (oE (wTup (wAC (wC (.int 1)) (wAC (wC (.int 2)) (wAC (wC (.int 3)) (wAC (wC (.int 4)) (wAC (wC (.int 5)) (wAC (wC (.int 0)) wA0))))))))))
  (wRet (wC (.bl false)))
  wNil)
  (wSeq (wIfS (wTst (wB (opEq true) (oE (wCall 3 sp_slews_for (wAC (wC (.int 3)) (wAC (wC (.int 0)) (wAC (wTup (wAC (wTup (wAC (wTup (wAC (wC (.int 3)) wA0)) (wAC (wTup (wAC (wC (.int 1)) wA0)) wA0))) (wAC (wTup (wAC (wTup (wAC (wC (.int 3)) (wAC (wC (.int 0)) wA0))) (wAC (wTup (wAC (wC (.int 1)) (wAC (wC (.int 0)) wA0))) wA0))) wA0))) wA0))))) (oE (wLc [5] (iR2 (wAC (wC (.int 1)) (wAC (wC (.int 6)) wA0))) (gN 5) wYes (wTup (wAC (wC (.int 1)) (wAC (wV 5) wA0)))))))
  (wRet (wC (.bl false)))
  wNil)
  (wRet (wB (opEq false) (oE (wCall 3 sp_slews_for (wAC (wC (.int 2)) (wAC (wC (.int 0)) (wAC (wTup (wAC (wTup (wAC (wTup (wAC (wC (.int 2)) wA0)) (wAC (wTup (wAC (wC (.int 0)) wA0)) wA0))) wA0)) wA0))))) (oE (wLc [5] (iR1 (wAC (wC (.int 6)) wA0)) (gN 5) wYes (wTup (wAC (wC (.int 0)) (wAC (wV 5) wA0))))))))))

def wf_law_pick_v2 : WS :=
  (wSeq (wIfS (wTst (wB opGt (oE (wB opIxX (oV 0) (oE (wC (.int 0))))) (oE (wC (.int 1)))))
  (wSeq (wSet 2 (wB opMod (oE (wCB opInt1 (wUC (oE (wB opIxX (oV 0) (oE (wC (.int 0))))) wA0))) (oV 1)))
  (wSeq (wSetX 0 (wB opDiv (oE (wB opIxX (oV 0) (oE (wC (.int 0))))) (oV 1)) (oE (wC (.int 0))))
  (wRet (wMv 2))))
  wNil)
  (wSeq (wSetX 0 (wB opAdd (oE (wB opIxX (oV 0) (oE (wC (.int 2))))) (oE (wC (.int 1)))) (oE (wC (.int 2))))
  (wSeq (wSet 3 (wB opMod (oE (wCB opInt1 (wUC (oE (wB opPow (oE (wCB opInt1 (wUC (oE (wB opAdd (oE (wB opIxX (oV 0) (oE (wC (.int 1))))) (oE (wB opMul (oE (wC (.int 15485867))) (oE (wB opIxX (oV 0) (oE (wC (.int 2))))))))) wA0))) (oE (wC (.int 5))))) wA0))) (oE (wC (.int 2147483647)))))
  (wSeq (wSet 2 (wB opDiv (oE (wB opMod (oE (wCB opInt1 (wUC (oE (wB opPow (oE (wCB opInt1 (wUC (oE (wB opAdd (oV 3) (oE (wB opMul (oE (wC (.int 7919))) (oE (wB opIxX (oV 0) (oE (wC (.int 2))))))))) wA0))) (oE (wC (.int 3))))) wA0))) (oE (wC (.int 2147483629))))) (oE (wC (.int 32)))))
  (wRet (wB opMod (oE (wCB opInt1 (wUC (oV 2) wA0))) (oV 1)))))))

def wf_law_other (sp__law_pick : FSpec) : WS :=
  (wSeq (wSet 3 (wCall 2 sp__law_pick (wAC (wV 0) (wAC (wB opAdd (oV 1) (oE (wC (.int 1)))) wA0))))
  (wSeq (wIfS (wTst (wB (opEq false) (oE (wB opIxX (oV 2) (oE (wC (.int 0))))) (oE (wC (.str "hold")))))
  (wRet (wTup (wAC (wC (.str "hold")) (wAC (wB opAdd (oE (wC (.int 1))) (oE (wCall 2 sp__law_pick (wAC (wV 0) (wAC (wC (.int 2)) wA0))))) wA0))))
  wNil)
  (wSeq (wIfS (wTst (wB (opEq false) (oE (wB opIxX (oV 2) (oE (wC (.int 0))))) (oE (wC (.str "slew")))))
  (wRet (wTup (wAC (wC (.str "slew")) (wAC (wCall 2 sp__law_pick (wAC (wV 0) (wAC (wC (.int 6)) wA0))) (wAC (wCall 2 sp__law_pick (wAC (wV 0) (wAC (wC (.int 6)) wA0))) wA0)))))
  wNil)
  (wRet (wTup (wAC (wB opIxX (oV 2) (oE (wC (.int 0)))) (wAC (wV 3) (wAC (wB opAdd (oV 3) (oE (wCall 2 sp__law_pick (wAC (wV 0) (wAC (wB opSub (oE (wB opAdd (oV 1) (oE (wC (.int 1))))) (oV 3)) wA0))))) wA0))))))))

def wf_number_in : WS :=
  (wRet (wIf (wAnd (wTst (wB (opEq false) (oE (wCB opLenX (wUC (oV 0) wA0))) (oE (wC (.int 1))))) (wTst (wB (opInX false) (oV 0) (oE (wC (.str "0123456789")))))) (wCB opInt1 (wUC (oV 0) wA0)) (wC .non)))

def wf_law_same_v2 (sp__law_sort : FSpec) (sp__law_same : FSpec) : WS :=
  (wSeq (wIfS (wTst (wB (opEq true) (oE (wCall 1 sp__law_sort (wAC (wV 0) wA0))) (oE (wCall 1 sp__law_sort (wAC (wV 1) wA0)))))
  (wRet (wC (.bl false)))
  wNil)
  (wSeq (wIfS (wAnd (wTst (wB opGt (oE (wCall 1 sp__law_sort (wAC (wV 0) wA0))) (oE (wC (.int 3))))) (wTst (wB opLt (oE (wCall 1 sp__law_sort (wAC (wV 0) wA0))) (oE (wC (.int 6))))))
  (wSeq (wIfS (wTst (wB (opEq true) (oE (wCB opLenX (wUC (oV 0) wA0))) (oE (wCB opLenX (wUC (oV 1) wA0)))))
  (wRet (wC (.bl false)))
  wNil)
  (wRet (wB (opEq false) (oE (wLc [2, 3] (iEn (wAC (wV 0) wA0)) (gT (gCs (gN 2) (gCs (gN 3) gNl))) (wNot (wTst (wCall 2 sp__law_same (wAC (wV 3) (wAC (wB opIxX (oV 1) (oV 2)) wA0))))) (wV 2))) (oE (wLst wA0)))))
  wNil)
  (wRet (wB (opEq false) (oV 0) (oV 1)))))

def wf_law_odd (sp__law_pick : FSpec) : WS :=
  (wSeq (wSet 2 (wLst (wAC (wC .non) (wAC (wSl (oV 1) pN (pS (wC (.int 2)))) (wAC (wCB opListX (wUC (oV 1) wA0)) (wAC (wTup (wAC (wB opIxX (oV 1) (oE (wC (.int 0)))) (wAC (wB opAdd (oE (wB opIxX (oV 1) (oE (wC (.int 0))))) (oE (wC (.int 1)))) (wAC (wB opIxX (oV 1) (oE (wC (.int 2)))) wA0)))) (wAC (wTup (wAC (wC (.int 6)) (wAC (wB opIxX (oV 1) (oE (wC (.int 1)))) (wAC (wTup wA0) wA0)))) (wAC (wTup (wAC (wC (.bl true)) (wAC (wB opIxX (oV 1) (oE (wC (.int 1)))) (wAC (wB opIxX (oV 1) (oE (wC (.int 2)))) wA0)))) (wAC (wTup (wAC (wB opIxX (oV 1) (oE (wC (.int 0)))) (wAC (wB opIxX (oV 1) (oE (wC (.int 1)))) (wAC (wCB opListX (wUC (oE (wB opIxX (oV 1) (oE (wC (.int 2))))) wA0)) wA0)))) wA0)))))))))
  (wRet (wB opIxX (oV 2) (oE (wCall 2 sp__law_pick (wAC (wV 0) (wAC (wCB opLenX (wUC (oV 2) wA0)) wA0)))))))

def wf_wall : WS :=
  (wWhile (wTst (wC (.bl true)))
  wNil)

def wf_law_between (sp__law_first : FSpec) : WS :=
  (wSeq (wSet 1 (wB opIxX (oV 0) (oE (wC (.int 1)))))
  (wSeq (wFor (iZp (wAC (wB opIxX (oV 0) (oE (wC (.int 2)))) (wAC (wCall 1 sp__law_first (wAC (wV 0) wA0)) wA0))) (gT (gCs (gN 2) (gCs (gN 3) gNl)))
  (wIfS (wTst (wB (opEq false) (oE (wB opIxX (oV 2) (oE (wC (.int 0))))) (oE (wC (.str "clip")))))
  (wSet 1 (wCB opMax2 (wUC (oE (wB opIxX (oV 2) (oE (wC (.int 1))))) (wUC (oE (wCB opMin2 (wUC (oE (wB opIxX (oV 2) (oE (wC (.int 2))))) (wUC (oV 1) wA0)))) wA0))))
  (wIfS (wTst (wB (opEq false) (oE (wB opIxX (oV 2) (oE (wC (.int 0))))) (oE (wC (.str "gate")))))
  (wSet 1 (wIf (wTst (wB (opEq false) (oV 3) (oE (wC (.int 1))))) (wV 1) (wC (.int 0))))
  wNil)))
  (wRet (wMv 1))))

def wf_law_slews_right_v2 (sp_spread : FSpec) (sp_slews_for : FSpec) (sp_telling_signal : FSpec) (sp_fitting : FSpec) (sp_memory : FSpec) (sp_redundant_stages : FSpec) (sp_exchangeable : FSpec) (sp_count_outputs : FSpec) (sp_output_at : FSpec) (sp_place_of : FSpec) (sp_count_passing : FSpec) (sp_possible_levels : FSpec) (sp_settled : FSpec) (sp_settling : FSpec) (sp_count_signals : FSpec) (sp_first_signal : FSpec) (sp_impossible : FSpec) (sp_apart : FSpec) (sp_apart_signal : FSpec) (sp_parting_signal : FSpec) (sp_alike : FSpec) (sp_single_slew : FSpec) (sp_output : FSpec) (sp_state : FSpec) (sp_bound : FSpec) : WS :=
  (wSeq (wIfS (wOr (wTst (wB (opEq true) (oE (wCall 2 sp_output (wAC (wV 0) (wAC (wTup (wAC (wC (.int 3)) (wAC (wC (.int 3)) (wAC (wC (.int 3)) (wAC (wC (.int 0)) wA0))))) wA0)))) (oE (wTup (wAC (wC (.int 1)) (wAC (wC (.int 2)) (wAC (wC (.int 3)) (wAC (wC (.int 1)) wA0)))))))) (wOr (wTst (wB (opEq true) (oE (wCall 2 sp_state (wAC (wV 0) (wAC (wTup (wAC (wC (.int 3)) (wAC (wC (.int 3)) wA0))) wA0)))) (oE (wTup (wAC (wC (.int 2)) wA0))))) (wTst (wB (opEq true) (oE (wCall 2 sp_bound (wAC (wV 0) (wAC (wV 2) wA0)))) (oE (wC (.int 7)))))))
  (wRet (wC (.bl false)))
  wNil)
  (wSeq (wIfS (wOr (wTst (wB (opEq true) (oE (wCall 2 sp_parting_signal (wAC (wV 0) (wAC (wV 1) wA0)))) (oE (wTup (wAC (wC (.int 1)) (wAC (wC (.int 2)) (wAC (wC (.int 0)) wA0))))))) (wOr (wTst (wB (opIs true) (oE (wCall 2 sp_alike (wAC (wV 0) (wAC (wV 2) wA0)))) (oE (wC (.bl true))))) (wTst (wB (opEq true) (oE (wCall 1 sp_single_slew (wAC (wV 2) wA0))) (oE (wTup (wAC (wC (.int 1)) (wAC (wC (.int 2)) wA0))))))))
  (wRet (wC (.bl false)))
  wNil)
  (wSeq (wIfS (wOr (wTst (wB (opEq true) (oE (wCall 2 sp_apart (wAC (wV 0) (wAC (wV 1) wA0)))) (oE (wTup (wAC (wC (.int 0)) (wAC (wC (.int 2)) wA0)))))) (wOr (wTst (wB (opEq true) (oE (wCall 3 sp_apart_signal (wAC (wV 0) (wAC (wV 1) (wAC (wC (.int 2)) wA0))))) (oE (wTup (wAC (wC (.int 1)) (wAC (wC (.int 2)) (wAC (wC (.int 0)) (wAC (wC (.int 2)) (wAC (wC (.int 3)) (wAC (wC (.int 0)) wA0)))))))))) (wTst (wB (opIs true) (oE (wCall 3 sp_apart_signal (wAC (wV 0) (wAC (wV 1) (wAC (wC (.int (-1))) wA0))))) (oE (wC .non))))))
  (wRet (wC (.bl false)))
  wNil)
  (wSeq (wIfS (wOr (wTst (wB (opEq true) (oE (wCall 2 sp_count_signals (wAC (wV 0) (wAC (wTup (wAC (wC (.int 1)) (wAC (wC (.int 2)) wA0))) wA0)))) (oE (wC (.int 6))))) (wOr (wTst (wB (opEq true) (oE (wCall 2 sp_first_signal (wAC (wV 0) (wAC (wTup (wAC (wC (.int 1)) (wAC (wC (.int 2)) wA0))) wA0)))) (oE (wTup (wAC (wC (.int 1)) (wAC (wC (.int 2)) wA0)))))) (wTst (wB (opEq true) (oE (wCall 1 sp_impossible (wAC (wV 0) wA0))) (oE (wTup (wAC (wC (.int 2)) wA0)))))))
  (wRet (wC (.bl false)))
  wNil)
  (wSeq (wIfS (wOr (wTst (wB (opEq true) (oE (wCall 2 sp_possible_levels (wAC (wV 0) (wAC (wTup (wAC (wC (.int 1)) (wAC (wC (.int 2)) wA0))) wA0)))) (oE (wLst (wAC (wTup (wAC (wC (.int 1)) (wAC (wC (.int 2)) (wAC (wC (.int 3)) wA0)))) (wAC (wTup (wAC (wC (.int 2)) (wAC (wC (.int 3)) wA0))) wA0)))))) (wOr (wTst (wB (opEq true) (oE (wCall 2 sp_settled (wAC (wV 0) (wAC (wC (.int 3)) wA0)))) (oE (wTup (wAC (wTup (wAC (wC (.int 1)) (wAC (wC (.int 2)) wA0))) (wAC (wC (.int 3)) wA0)))))) (wTst (wB (opEq true) (oE (wCall 1 sp_settling (wAC (wV 0) wA0))) (oE (wC (.int 2)))))))
  (wRet (wC (.bl false)))
  wNil)
  (wSeq (wIfS (wOr (wTst (wB (opEq true) (oE (wCall 2 sp_count_outputs (wAC (wV 0) (wAC (wC (.int 2)) wA0)))) (oE (wC (.int 5))))) (wOr (wTst (wB (opEq true) (oE (wCall 3 sp_output_at (wAC (wV 0) (wAC (wC (.int 2)) (wAC (wC (.int 4)) wA0))))) (oE (wTup (wAC (wC (.int 1)) (wAC (wC (.int 2)) wA0)))))) (wOr (wTst (wB (opEq true) (oE (wCall 2 sp_place_of (wAC (wV 0) (wAC (wTup (wAC (wC (.int 1)) (wAC (wC (.int 0)) wA0))) wA0)))) (oE (wC (.int 2))))) (wTst (wB (opEq true) (oE (wCall 2 sp_count_passing (wAC (wV 0) (wAC (wC (.int 2)) wA0)))) (oE (wC (.int 5))))))))
  (wRet (wC (.bl false)))
  wNil)
  (wSeq (wIfS (wOr (wTst (wB (opEq true) (oE (wCall 1 sp_redundant_stages (wAC (wV 2) wA0))) (oE (wLst (wAC (wC (.int 1)) wA0))))) (wOr (wTst (wB (opEq true) (oE (wCall 1 sp_exchangeable (wAC (wV 2) wA0))) (oE (wLst (wAC (wC (.int 0)) wA0))))) (wTst (wB (opEq true) (oE (wCall 1 sp_telling_signal (wAC (wTup (wAC (wV 0) (wAC (wV 1) wA0))) wA0))) (oE (wTup (wAC (wC (.int 1)) (wAC (wC (.int 2)) (wAC (wC (.int 0)) wA0)))))))))
  (wRet (wC (.bl false)))
  wNil)
  (wSeq (wIfS (wOr (wTst (wB (opEq true) (oE (wCall 1 sp_telling_signal (wAC (wTup (wAC (wV 0) (wAC (wV 2) wA0))) wA0))) (oE (wTup wA0)))) (wOr (wTst (wB (opEq true) (oE (wCall 3 sp_fitting (wAC (wTup (wAC (wV 0) (wAC (wV 1) (wAC (wV 2) wA0)))) (wAC (wTup (wAC (wC (.int 3)) (wAC (wC (.int 3)) (wAC (wC (.int 0)) wA0)))) (wAC (wTup (wAC (wC (.int 1)) (wAC (wC .non) (wAC (wC (.int 0)) wA0)))) wA0))))) (oE (wLst (wAC (wC (.int 0)) (wAC (wC (.int 2)) wA0)))))) (wTst (wB (opIs true) (oE (wCall 1 sp_memory (wAC (wV 0) wA0))) (oE (wC .non))))))
  (wRet (wC (.bl false)))
  wNil)
  (wRet (vAnd (wB (opEq false) (oE (wCall 2 sp_spread (wAC (wV 0) (wAC (wC (.int 1)) wA0)))) (oE (wC (.int 1)))) (wB (opEq false) (oE (wCall 3 sp_slews_for (wAC (wC (.int 3)) (wAC (wC (.int 0)) (wAC (wTup (wAC (wTup (wAC (wTup (wAC (wC (.int 3)) (wAC (wC (.int 3)) (wAC (wC (.int 0)) wA0)))) (wAC (wTup (wAC (wC (.int 1)) (wAC (wC (.int 2)) (wAC (wC (.int 0)) wA0)))) wA0))) wA0)) wA0))))) (oE (wLst (wAC (wTup (wAC (wC (.int 1)) (wAC (wC (.int 2)) wA0))) (wAC (wTup (wAC (wC (.int 1)) (wAC (wC (.int 3)) wA0))) (wAC (wTup (wAC (wC (.int 1)) (wAC (wC (.int 4)) wA0))) (wAC (wTup (wAC (wC (.int 1)) (wAC (wC (.int 5)) wA0))) wA0)))))))))))))))))

def wf_law_gates_right (sp_is_rising : FSpec) (sp_apart : FSpec) (sp_memory : FSpec) (sp_unforgotten : FSpec) (sp_settled : FSpec) (sp_follows : FSpec) (sp_fewest_states : FSpec) (sp_spread : FSpec) (sp_impossible : FSpec) (sp_output : FSpec) : WS :=
  (wSeq (wSet 2 (wTup (wAC (wC (.int 5)) (wAC (wC (.int 0)) (wAC (wTup (wAC (wTup (wAC (wC (.str "gate")) (wAC (wV 0) (wAC (wV 1) wA0)))) wA0)) wA0)))))
  (wSeq (wIfS (wTst (wB (opEq true) (oE (wCall 2 sp_output (wAC (wV 2) (wAC (wTup (wAC (wB opSub (oV 1) (oE (wC (.int 1)))) (wAC (wV 1) (wAC (wV 0) (wAC (wB opSub (oV 0) (oE (wC (.int 1)))) (wAC (wB opSub (oV 1) (oE (wC (.int 1)))) wA0)))))) wA0)))) (oE (wTup (wAC (wC (.int 0)) (wAC (wV 1) (wAC (wV 0) (wAC (wC (.int 0)) (wAC (wC (.int 0)) wA0)))))))))
  (wRet (wC (.bl false)))
  wNil)
  (wSeq (wIfS (wOr (wTst (wB (opEq true) (oE (wCall 1 sp_fewest_states (wAC (wV 2) wA0))) (oE (wC (.int 2))))) (wOr (wTst (wB (opEq true) (oE (wCall 2 sp_spread (wAC (wV 2) (wAC (wC (.int 1)) wA0)))) (oV 1))) (wTst (wB (opEq true) (oE (wCall 1 sp_impossible (wAC (wV 2) wA0))) (oE (wTup (wAC (wC (.int 1)) wA0)))))))
  (wRet (wC (.bl false)))
  wNil)
  (wSeq (wIfS (wOr (wTst (wB (opIs true) (oE (wCall 1 sp_memory (wAC (wV 2) wA0))) (oE (wC .non)))) (wOr (wTst (wB (opEq true) (oE (wCB opLenX (wUC (oE (wCall 1 sp_unforgotten (wAC (wV 2) wA0))) wA0))) (oE (wC (.int 5))))) (wOr (wTst (wB (opEq true) (oE (wCall 2 sp_settled (wAC (wV 2) (wAC (wB opSub (oV 1) (oE (wC (.int 1)))) wA0)))) (oE (wTup (wAC (wTup wA0) (wAC (wC (.int 0)) wA0)))))) (wTst (wB (opIs true) (oE (wCall 1 sp_follows (wAC (wV 2) wA0))) (oE (wC (.bl false))))))))
  (wRet (wC (.bl false)))
  wNil)
  (wRet (vAnd (wB (opIs false) (oE (wCall 1 sp_is_rising (wAC (wV 2) wA0))) (oE (wC (.bl true)))) (wB (opEq false) (oE (wCall 2 sp_apart (wAC (wV 2) (wAC (wTup (wAC (wC (.int 5)) (wAC (wC (.int 0)) (wAC (wTup wA0) wA0)))) wA0)))) (oE (wTup (wAC (wC (.int 0)) (wAC (wB opSub (oV 1) (oE (wC (.int 1)))) wA0)))))))))))

def wf_law_k26 (sp_memory : FSpec) (sp_settling : FSpec) (sp_output : FSpec) (sp_is_rising : FSpec) (sp_impossible : FSpec) (sp_falling_pair : FSpec) (sp__law_slews_right : FSpec) (sp__law_gates_right : FSpec) (sp__law_pick : FSpec) (sp__law_deck : FSpec) : WS :=
  (wSeq (wFor (iR1 (wAC (wC (.int 4)) wA0)) (gN 1)
  (wSeq (wPub 2 (wCall 2 sp__law_deck (wAC (wB opIxX (oE (wB opAdd (oV 0) (oE (wB opMul (oE (wLst (wAC (wC (.int 0)) wA0))) (oE (wC (.int 4))))))) (oV 1)) (wAC (wV 1) wA0))))
  (wSeq (wSet 3 (wB opAdd (oE (wC (.int 1))) (oE (wCall 2 sp__law_pick (wAC (wV 2) (wAC (wC (.int 4)) wA0))))))
  (wIfS (wNot (wTst (wCall 2 sp__law_gates_right (wAC (wV 3) (wAC (wB opAdd (oE (wB opAdd (oV 3) (oE (wC (.int 1))))) (oE (wCall 2 sp__law_pick (wAC (wV 2) (wAC (wB opSub (oE (wC (.int 5))) (oV 3)) wA0))))) wA0)))))
  (wRet (wC (.bl false)))
  wNil))))
  (wSeq (wPr2 4 5 (wLC (wTup (wAC (wC (.int 3)) (wAC (wC (.int 0)) (wAC (wTup (wAC (wTup (wAC (wC (.str "slew")) (wAC (wC (.int 1)) (wAC (wC (.int 2)) wA0)))) wA0)) wA0)))) (wLC (wTup (wAC (wC (.int 3)) (wAC (wC (.int 0)) (wAC (wTup (wAC (wTup (wAC (wC (.str "slew")) (wAC (wC (.int 1)) (wAC (wC (.int 1)) wA0)))) wA0)) wA0)))) wL0)))
  (wSeq (wIfS (wNot (wTst (wCall 3 sp__law_slews_right (wAC (wV 4) (wAC (wV 5) (wAC (wTup (wAC (wC (.int 3)) (wAC (wC (.int 0)) (wAC (wTup (wAC (wTup (wAC (wC (.str "slew")) (wAC (wC (.int 1)) (wAC (wC (.int 2)) wA0)))) (wAC (wTup (wAC (wC (.str "slew")) (wAC (wC (.int 2)) (wAC (wC (.int 3)) wA0)))) wA0))) wA0)))) wA0))))))
  (wRet (wC (.bl false)))
  wNil)
  (wSeq (wSet 6 (wTup (wAC (wC (.int 2)) (wAC (wC (.int 0)) (wAC (wTup (wAC (wTup (wAC (wC (.str "hold")) (wAC (wC (.int 1)) wA0))) wA0)) wA0)))))
  (wSeq (wSet 7 (wCall 1 sp_falling_pair (wAC (wV 6) wA0)))
  (wSeq (wIfS (wOr (wTst (wB (opIs true) (oE (wCall 1 sp_is_rising (wAC (wV 6) wA0))) (oE (wC (.bl false))))) (wOr (wTst (wB (opIs false) (oV 7) (oE (wC .non)))) (wTst (wB (opEq true) (oE (wCall 1 sp_impossible (wAC (wV 6) wA0))) (oE (wTup (wAC (wC (.int 1)) (wAC (wC (.int 0)) wA0))))))))
  (wRet (wC (.bl false)))
  wNil)
  (wSeq (wIfS (wTst (wB (opEq true) (oE (wLc [8] (iW (wV 7)) (gN 8) wYes (wCB opLenX (wUC (oV 8) wA0)))) (oE (wLst (wAC (wC (.int 2)) (wAC (wC (.int 2)) wA0))))))
  (wRet (wC (.bl false)))
  wNil)
  (wRet (vAnd (wB (opEq false) (oE (wCall 1 sp_memory (wAC (wTup (wAC (wC (.int 3)) (wAC (wC (.int 0)) (wAC (wTup (wAC (wTup (wAC (wC (.str "slew")) (wAC (wC (.int 3)) (wAC (wC (.int 1)) wA0)))) wA0)) wA0)))) wA0))) (oE (wC (.int 2)))) (vAnd (wB (opEq false) (oE (wCall 1 sp_settling (wAC (wV 6) wA0))) (oE (wC (.int 1)))) (wB (opEq false) (oE (wCall 2 sp_output (wAC (wV 6) (wAC (wTup (wAC (wC (.int 1)) (wAC (wC (.int 2)) (wAC (wC (.int 0)) (wAC (wC (.int 0)) wA0))))) wA0)))) (oE (wTup (wAC (wC (.int 1)) (wAC (wC (.int 1)) (wAC (wC (.int 0)) (wAC (wC (.int 0)) wA0)))))))))))))))))

end VC

set_option Elab.async false
set_option linter.all false
set_option maxRecDepth 100000
set_option maxHeartbeats 4000000
/-! M2: the checks and the chain's walk, by their W's. -/
namespace VC
open PySem PySem.Spec PyProof.Rows L2
abbrev ENDS (R : T → Sto → Prop) : WEnds := { nx := fun _ s => R (.val .non) s, rt := R }
theorem ofbl {R : T → Sto → Prop} {S : Sto} {b c : Bool} (q : R (.val (.bl c)) S) (e : b = c) : R (.val (.bl b)) S := by rw [e]; exact q
theorem ofd {R : T → Sto → Prop} {S : Sto} {b c : D} (q : R (.val c) S) (e : b = c) : R (.val b) S := by rw [e]; exact q
def sp_is_from : FSpec := fun ds S R _ => ∃ a l h : Int, ds = [.int a, .int l, .int h] ∧ R (.val (.bl (decide (l ≤ a ∧ a ≤ h)))) S
theorem vc_is_from (ds S R) (h : sp_is_from ds S R (fun _ _ => False)) : wf_is_from (ENDS R) (env0 3 ds) S := by
  obtain ⟨a, l, h, rfl, q⟩ := h
  ((try conv => whnf) <;> repeat ((first | (refine Ite.mt ?_ ?_; focus (first | rfl | (simp; done) | (simp; omega))) | (refine Ite.mf ?_ ?_; focus (first | rfl | (simp; done) | (simp; omega))) | (refine And.intro ?_ ?_; focus (first | rfl | decide | (simp; done) | (simp; omega) | omega))) <;> (try conv => whnf)))
  refine Ite.intro (fun hc => ?_) (fun hc => ?_)
  · (conv => whnf)
    refine ofbl q ?_
    simp at hc; simp [hc]
  · (conv => whnf)
    refine ofbl q ?_
    simp at hc; simp; omega

theorem cl_in : (D.str "clip").cmp = true ∧ (D.tup [.str "clip", .str "gate"]).cmp = true := by decide +kernel
theorem ga_in : (D.str "gate").cmp = true ∧ (D.tup [.str "clip", .str "gate"]).cmp = true := by decide +kernel
theorem cl_any : ([D.str "clip", .str "gate"].any fun z => z.eqv (.str "clip")) = true := by decide +kernel
theorem ga_any : ([D.str "clip", .str "gate"].any fun z => z.eqv (.str "gate")) = true := by decide +kernel
def sp_is_stage_of : FSpec := fun ds S R _ => ∃ (t : Int) (s : Stg), ds = [.int t, s.d] ∧ s.Ok t ∧ R (.val (.bl true)) S
theorem vc_is_stage_of (ds S R) (h : sp_is_stage_of ds S R (fun _ _ => False)) : wf_is_stage_of sp_is_from (ENDS R) (env0 2 ds) S := by
  obtain ⟨t, s, rfl, ok, q⟩ := h
  cases s with
  | slew u d =>
    obtain ⟨h1, h2, h3, h4⟩ := ok
    ((try conv => whnf) <;> repeat ((first | (refine Ite.mt ?_ ?_; focus (first | rfl | (simp; done) | (simp; omega))) | (refine Ite.mf ?_ ?_; focus (first | rfl | (simp; done) | (simp; omega))) | (refine And.intro ?_ ?_; focus (first | rfl | decide | (simp; done) | (simp; omega) | omega))) <;> (try conv => whnf)))
    refine ⟨_, _, _, rfl, ?_⟩
    (conv => whnf)
    refine Ite.mt (by simp; omega) ?_
    ((try conv => whnf) <;> repeat ((first | (refine Ite.mt ?_ ?_; focus (first | rfl | (simp; done) | (simp; omega))) | (refine Ite.mf ?_ ?_; focus (first | rfl | (simp; done) | (simp; omega))) | (refine And.intro ?_ ?_; focus (first | rfl | decide | (simp; done) | (simp; omega) | omega))) <;> (try conv => whnf)))
    refine ⟨_, _, _, rfl, ?_⟩
    refine ofbl q (by simp; omega)
  | clip u d =>
    obtain ⟨h1, h2, h3, h4⟩ := ok
    ((try conv => whnf) <;> repeat ((first | (refine Ite.mt ?_ ?_; focus (first | rfl | (simp; done) | (simp; omega))) | (refine Ite.mf ?_ ?_; focus (first | rfl | (simp; done) | (simp; omega))) | (refine And.intro ?_ ?_; focus (first | rfl | decide | (simp; done) | (simp; omega) | omega))) <;> (try conv => whnf)))
    refine ⟨cl_in, ?_⟩
    (conv => whnf)
    refine Ite.mt cl_any ?_
    ((try conv => whnf) <;> repeat ((first | (refine Ite.mt ?_ ?_; focus (first | rfl | (simp; done) | (simp; omega))) | (refine Ite.mf ?_ ?_; focus (first | rfl | (simp; done) | (simp; omega))) | (refine And.intro ?_ ?_; focus (first | rfl | decide | (simp; done) | (simp; omega) | omega))) <;> (try conv => whnf)))
    refine ⟨_, _, _, rfl, ?_⟩
    (conv => whnf)
    refine Ite.mt (by simp; omega) ?_
    ((try conv => whnf) <;> repeat ((first | (refine Ite.mt ?_ ?_; focus (first | rfl | (simp; done) | (simp; omega))) | (refine Ite.mf ?_ ?_; focus (first | rfl | (simp; done) | (simp; omega))) | (refine And.intro ?_ ?_; focus (first | rfl | decide | (simp; done) | (simp; omega) | omega))) <;> (try conv => whnf)))
    refine ⟨_, _, _, rfl, ?_⟩
    refine ofbl q (by simp; omega)
  | gate u d =>
    obtain ⟨h1, h2, h3, h4⟩ := ok
    ((try conv => whnf) <;> repeat ((first | (refine Ite.mt ?_ ?_; focus (first | rfl | (simp; done) | (simp; omega))) | (refine Ite.mf ?_ ?_; focus (first | rfl | (simp; done) | (simp; omega))) | (refine And.intro ?_ ?_; focus (first | rfl | decide | (simp; done) | (simp; omega) | omega))) <;> (try conv => whnf)))
    refine ⟨ga_in, ?_⟩
    (conv => whnf)
    refine Ite.mt ga_any ?_
    ((try conv => whnf) <;> repeat ((first | (refine Ite.mt ?_ ?_; focus (first | rfl | (simp; done) | (simp; omega))) | (refine Ite.mf ?_ ?_; focus (first | rfl | (simp; done) | (simp; omega))) | (refine And.intro ?_ ?_; focus (first | rfl | decide | (simp; done) | (simp; omega) | omega))) <;> (try conv => whnf)))
    refine ⟨_, _, _, rfl, ?_⟩
    (conv => whnf)
    refine Ite.mt (by simp; omega) ?_
    ((try conv => whnf) <;> repeat ((first | (refine Ite.mt ?_ ?_; focus (first | rfl | (simp; done) | (simp; omega))) | (refine Ite.mf ?_ ?_; focus (first | rfl | (simp; done) | (simp; omega))) | (refine And.intro ?_ ?_; focus (first | rfl | decide | (simp; done) | (simp; omega) | omega))) <;> (try conv => whnf)))
    refine ⟨_, _, _, rfl, ?_⟩
    refine ofbl q (by simp; omega)
  | hold u =>
    obtain ⟨h1, h2⟩ := ok
    ((try conv => whnf) <;> repeat ((first | (refine Ite.mt ?_ ?_; focus (first | rfl | (simp; done) | (simp; omega))) | (refine Ite.mf ?_ ?_; focus (first | rfl | (simp; done) | (simp; omega))) | (refine And.intro ?_ ?_; focus (first | rfl | decide | (simp; done) | (simp; omega) | omega))) <;> (try conv => whnf)))
    refine ⟨_, _, _, rfl, ?_⟩
    refine ofbl q (by simp; omega)
def sp_keeping : FSpec := fun ds S R _ => ∃ (ss : List Stg), ds = [.tup (ss.map Stg.d)] ∧ ss.length ≤ 1000 ∧ R (.val (.int (keeps ss : Nat))) S
theorem keeps_fm (ss : List Stg) : (ss.filterMap fun s => if s.keep then some s.d else none).length = keeps ss := by
  unfold keeps
  induction ss with
  | nil => rfl
  | cons s ss ih =>
    rw [List.filterMap_cons, List.filter_cons]
    cases s.keep <;> simp [ih]
theorem vc_keeping (ds S R) (h : sp_keeping ds S R (fun _ _ => False)) : wf_keeping (ENDS R) (env0 2 ds) S := by
  obtain ⟨ss, rfl, hl, q⟩ := h
  ((try conv => whnf) <;> repeat ((first | (refine Ite.mt ?_ ?_; focus (first | rfl | (simp; done) | (simp; omega))) | (refine Ite.mf ?_ ?_; focus (first | rfl | (simp; done) | (simp; omega))) | (refine And.intro ?_ ?_; focus (first | rfl | decide | (simp; done) | (simp; omega) | omega))) <;> (try conv => whnf)))
  refine ⟨⟨rfl, by simp; omega⟩, ?_⟩
  refine lcW_pure Stg.d (fun s => if s.keep then some s.d else none) _ _ (fun s _ K acc hK => ?_) ?_
  · cases s <;> (((try conv => whnf) <;> repeat ((first | (refine Ite.mt ?_ ?_; focus (first | rfl | (simp; done) | (simp; omega))) | (refine Ite.mf ?_ ?_; focus (first | rfl | (simp; done) | (simp; omega))) | (refine And.intro ?_ ?_; focus (first | rfl | decide | (simp; done) | (simp; omega) | omega))) <;> (try conv => whnf))); simp only [Stg.keep] at hK; first | exact hK | (have hK : K (acc ++ []) _ _ := hK; rw [List.append_nil] at hK; exact hK))
  · ((try conv => whnf) <;> repeat ((first | (refine Ite.mt ?_ ?_; focus (first | rfl | (simp; done) | (simp; omega))) | (refine Ite.mf ?_ ?_; focus (first | rfl | (simp; done) | (simp; omega))) | (refine And.intro ?_ ?_; focus (first | rfl | decide | (simp; done) | (simp; omega) | omega))) <;> (try conv => whnf)))
    exact ofd q (by rw [keeps_fm])
def sp_is_chain_of : FSpec := fun ds S R _ => ∃ (c : Chn), ds = [c.d] ∧ c.Ok ∧ R (.val (.bl true)) S
theorem fm_rep {α : Type} (x : D) : ∀ l : List α, (l.filterMap fun _ => some x) = List.replicate l.length x
  | [] => rfl
  | _ :: l => by rw [List.filterMap_cons, fm_rep x l]; rfl
theorem blsD_trues : ∀ (n : Nat), blsD (List.replicate n (.bl true)) = some (List.replicate n true) := fun n => by
  rw [← List.map_replicate]; exact blsD_map _
theorem vc_is_chain_of (ds S R) (h : sp_is_chain_of ds S R (fun _ _ => False)) : wf_is_chain_of sp_is_stage_of sp_keeping sp_is_from (ENDS R) (env0 5 ds) S := by
  obtain ⟨⟨top, start, stages⟩, rfl, ok, q⟩ := h
  obtain ⟨h1, h2, h3, h4, h5, h6, h7⟩ := ok
  simp only at h1 h2 h3 h4 h5 h6 h7
  ((try conv => whnf) <;> repeat ((first | (refine Ite.mt ?_ ?_; focus (first | rfl | (simp; done) | (simp; omega))) | (refine Ite.mf ?_ ?_; focus (first | rfl | (simp; done) | (simp; omega))) | (refine And.intro ?_ ?_; focus (first | rfl | decide | (simp; done) | (simp; omega) | omega))) <;> (try conv => whnf)))
  refine ⟨_, _, _, rfl, ?_⟩
  (conv => whnf)
  refine Ite.mf (by simp; omega) ?_
  ((try conv => whnf) <;> repeat ((first | (refine Ite.mt ?_ ?_; focus (first | rfl | (simp; done) | (simp; omega))) | (refine Ite.mf ?_ ?_; focus (first | rfl | (simp; done) | (simp; omega))) | (refine And.intro ?_ ?_; focus (first | rfl | decide | (simp; done) | (simp; omega) | omega))) <;> (try conv => whnf)))
  refine ⟨_, _, _, rfl, ?_⟩
  (conv => whnf)
  refine Ite.mf (by simp; omega) ?_
  ((try conv => whnf) <;> repeat ((first | (refine Ite.mt ?_ ?_; focus (first | rfl | (simp; done) | (simp; omega))) | (refine Ite.mf ?_ ?_; focus (first | rfl | (simp; done) | (simp; omega))) | (refine And.intro ?_ ?_; focus (first | rfl | decide | (simp; done) | (simp; omega) | omega))) <;> (try conv => whnf)))
  ((try conv => whnf) <;> repeat ((first | (refine Ite.mt ?_ ?_; focus (first | rfl | (simp; done) | (simp; omega))) | (refine Ite.mf ?_ ?_; focus (first | rfl | (simp; done) | (simp; omega))) | (refine And.intro ?_ ?_; focus (first | rfl | decide | (simp; done) | (simp; omega) | omega))) <;> (try conv => whnf)))
  refine ⟨⟨rfl, by simp; omega⟩, ?_⟩
  refine lcW_pure Stg.d (fun s => some (.bl true)) _ _ (fun s hs K acc hK => ?_) ?_
  · ((try conv => whnf) <;> repeat ((first | (refine Ite.mt ?_ ?_; focus (first | rfl | (simp; done) | (simp; omega))) | (refine Ite.mf ?_ ?_; focus (first | rfl | (simp; done) | (simp; omega))) | (refine And.intro ?_ ?_; focus (first | rfl | decide | (simp; done) | (simp; omega) | omega))) <;> (try conv => whnf)))
    exact ⟨_, s, rfl, h6 s hs, hK⟩
  · ((try conv => whnf) <;> repeat ((first | (refine Ite.mt ?_ ?_; focus (first | rfl | (simp; done) | (simp; omega))) | (refine Ite.mf ?_ ?_; focus (first | rfl | (simp; done) | (simp; omega))) | (refine And.intro ?_ ?_; focus (first | rfl | decide | (simp; done) | (simp; omega) | omega))) <;> (try conv => whnf)))
    refine ⟨_, by rw [fm_rep]; exact blsD_trues _, ?_⟩
    (conv => whnf)
    refine Ite.mt (by simp) ?_
    ((try conv => whnf) <;> repeat ((first | (refine Ite.mt ?_ ?_; focus (first | rfl | (simp; done) | (simp; omega))) | (refine Ite.mf ?_ ?_; focus (first | rfl | (simp; done) | (simp; omega))) | (refine And.intro ?_ ?_; focus (first | rfl | decide | (simp; done) | (simp; omega) | omega))) <;> (try conv => whnf)))
    refine ⟨stages, rfl, by omega, ?_⟩
    refine ofbl q (by simp; omega)
def sp_need_chain : FSpec := fun ds S R _ => ∃ (c : Chn), ds = [c.d] ∧ c.Ok ∧ R (.val .non) S
theorem vc_need_chain (ds S R) (h : sp_need_chain ds S R (fun _ _ => False)) : wf_need_chain sp_is_chain_of (ENDS R) (env0 1 ds) S := by
  obtain ⟨c, rfl, ok, q⟩ := h
  ((try conv => whnf) <;> repeat ((first | (refine Ite.mt ?_ ?_; focus (first | rfl | (simp; done) | (simp; omega))) | (refine Ite.mf ?_ ?_; focus (first | rfl | (simp; done) | (simp; omega))) | (refine And.intro ?_ ?_; focus (first | rfl | decide | (simp; done) | (simp; omega) | omega))) <;> (try conv => whnf)))
  refine ⟨c, rfl, ok, ?_⟩
  ((try conv => whnf) <;> repeat ((first | (refine Ite.mt ?_ ?_; focus (first | rfl | (simp; done) | (simp; omega))) | (refine Ite.mf ?_ ?_; focus (first | rfl | (simp; done) | (simp; omega))) | (refine And.intro ?_ ?_; focus (first | rfl | decide | (simp; done) | (simp; omega) | omega))) <;> (try conv => whnf)))
  exact q
def Sig (top : Int) (n : Nat) (l : List Int) : Prop := (∀ x ∈ l, Lev top x) ∧ l.length ≤ n
def sp_are_levels : FSpec := fun ds S R _ => ∃ (t m : Int) (l : List Int), ds = [.int t, intsT l, .int m] ∧ (∀ x ∈ l, Lev t x) ∧ l.length ≤ m ∧ l.length ≤ 1000 ∧ R (.val (.bl true)) S
theorem vc_are_levels (ds S R) (h : sp_are_levels ds S R (fun _ _ => False)) : wf_are_levels sp_is_from (ENDS R) (env0 4 ds) S := by
  obtain ⟨t, m, l, rfl, h1, h2, h3, q⟩ := h
  ((try conv => whnf) <;> repeat ((first | (refine Ite.mt ?_ ?_; focus (first | rfl | (simp; done) | (simp; omega))) | (refine Ite.mf ?_ ?_; focus (first | rfl | (simp; done) | (simp; omega))) | (refine And.intro ?_ ?_; focus (first | rfl | decide | (simp; done) | (simp; omega) | omega))) <;> (try conv => whnf)))
  ((try conv => whnf) <;> repeat ((first | (refine Ite.mt ?_ ?_; focus (first | rfl | (simp; done) | (simp; omega))) | (refine Ite.mf ?_ ?_; focus (first | rfl | (simp; done) | (simp; omega))) | (refine And.intro ?_ ?_; focus (first | rfl | decide | (simp; done) | (simp; omega) | omega))) <;> (try conv => whnf)))
  refine ⟨⟨rfl, by simp; omega⟩, ?_⟩
  refine lcW_pure D.int (fun s => some (.bl true)) _ _ (fun s hs K acc hK => ?_) ?_
  · ((try conv => whnf) <;> repeat ((first | (refine Ite.mt ?_ ?_; focus (first | rfl | (simp; done) | (simp; omega))) | (refine Ite.mf ?_ ?_; focus (first | rfl | (simp; done) | (simp; omega))) | (refine And.intro ?_ ?_; focus (first | rfl | decide | (simp; done) | (simp; omega) | omega))) <;> (try conv => whnf)))
    refine ⟨_, _, _, rfl, ?_⟩
    have : decide (0 ≤ s ∧ s ≤ t) = true := decide_eq_true (h1 s hs)
    rw [this]
    exact hK
  · ((try conv => whnf) <;> repeat ((first | (refine Ite.mt ?_ ?_; focus (first | rfl | (simp; done) | (simp; omega))) | (refine Ite.mf ?_ ?_; focus (first | rfl | (simp; done) | (simp; omega))) | (refine And.intro ?_ ?_; focus (first | rfl | decide | (simp; done) | (simp; omega) | omega))) <;> (try conv => whnf)))
    refine ⟨_, by rw [fm_rep]; exact blsD_trues _, ?_⟩
    exact ofbl q (by simp)
def sp_need_signal : FSpec := fun ds S R _ => ∃ (c : Chn) (l : List Int), ds = [c.d, intsT l] ∧ Sig c.top 40 l ∧ R (.val .non) S
/-- .. with the default -/
def sp_are_levels_2 : FSpec := fun ds S R E => sp_are_levels (ds ++ [.int 40]) S R E
theorem vc_need_signal (ds S R) (h : sp_need_signal ds S R (fun _ _ => False)) : wf_need_signal sp_are_levels_2 (ENDS R) (env0 2 ds) S := by
  obtain ⟨c, l, rfl, ok, q⟩ := h
  ((try conv => whnf) <;> repeat ((first | (refine Ite.mt ?_ ?_; focus (first | rfl | (simp; done) | (simp; omega))) | (refine Ite.mf ?_ ?_; focus (first | rfl | (simp; done) | (simp; omega))) | (refine And.intro ?_ ?_; focus (first | rfl | decide | (simp; done) | (simp; omega) | omega))) <;> (try conv => whnf)))
  refine ⟨_, _, l, rfl, ok.1, by have := ok.2; omega, by have := ok.2; omega, ?_⟩
  ((try conv => whnf) <;> repeat ((first | (refine Ite.mt ?_ ?_; focus (first | rfl | (simp; done) | (simp; omega))) | (refine Ite.mf ?_ ?_; focus (first | rfl | (simp; done) | (simp; omega))) | (refine And.intro ?_ ?_; focus (first | rfl | decide | (simp; done) | (simp; omega) | omega))) <;> (try conv => whnf)))
  exact q
def sp_between : FSpec := fun ds S R _ => ∃ a l h : Int, ds = [.int a, .int l, .int h] ∧ R (.val (.int (btw a l h))) S
theorem vc_between (ds S R) (h : sp_between ds S R (fun _ _ => False)) : wf_between (ENDS R) (env0 3 ds) S := by
  obtain ⟨a, l, h, rfl, q⟩ := h
  ((try conv => whnf) <;> repeat ((first | (refine Ite.mt ?_ ?_; focus (first | rfl | (simp; done) | (simp; omega))) | (refine Ite.mf ?_ ?_; focus (first | rfl | (simp; done) | (simp; omega))) | (refine And.intro ?_ ?_; focus (first | rfl | decide | (simp; done) | (simp; omega) | omega))) <;> (try conv => whnf)))
  exact q
theorem opn_mul (x b y : Int) : CMul x (opn b y) := by
  right
  rcases opn_01 b y with h | h <;> rw [h] <;> decide
def sp_first_of : FSpec := fun ds S R _ => ∃ (s : Stg) (x : Int), ds = [s.d, .int x] ∧ R (.val (.tup [.int (firstOf s x).1, (firstOf s x).2.d])) S
theorem vc_first_of (ds S R) (h : sp_first_of ds S R (fun _ _ => False)) : wf_first_of sp_between (ENDS R) (env0 3 ds) S := by
  obtain ⟨s, x, rfl, q⟩ := h
  cases s with
  | slew u d => ((try conv => whnf) <;> repeat ((first | (refine Ite.mt ?_ ?_; focus (first | rfl | (simp; done) | (simp; omega))) | (refine Ite.mf ?_ ?_; focus (first | rfl | (simp; done) | (simp; omega))) | (refine And.intro ?_ ?_; focus (first | rfl | decide | (simp; done) | (simp; omega) | omega))) <;> (try conv => whnf))); exact q
  | clip l h => ((try conv => whnf) <;> repeat ((first | (refine Ite.mt ?_ ?_; focus (first | rfl | (simp; done) | (simp; omega))) | (refine Ite.mf ?_ ?_; focus (first | rfl | (simp; done) | (simp; omega))) | (refine And.intro ?_ ?_; focus (first | rfl | decide | (simp; done) | (simp; omega) | omega))) <;> (try conv => whnf))); refine ⟨_, _, _, rfl, ?_⟩; ((try conv => whnf) <;> repeat ((first | (refine Ite.mt ?_ ?_; focus (first | rfl | (simp; done) | (simp; omega))) | (refine Ite.mf ?_ ?_; focus (first | rfl | (simp; done) | (simp; omega))) | (refine And.intro ?_ ?_; focus (first | rfl | decide | (simp; done) | (simp; omega) | omega))) <;> (try conv => whnf))); exact q
  | gate l h => ((try conv => whnf) <;> repeat ((first | (refine Ite.mt ?_ ?_; focus (first | rfl | (simp; done) | (simp; omega))) | (refine Ite.mf ?_ ?_; focus (first | rfl | (simp; done) | (simp; omega))) | (refine And.intro ?_ ?_; focus (first | rfl | decide | (simp; done) | (simp; omega) | omega))) <;> (try conv => whnf))); refine ⟨opn_mul x h x, ?_⟩; ((try conv => whnf) <;> repeat ((first | (refine Ite.mt ?_ ?_; focus (first | rfl | (simp; done) | (simp; omega))) | (refine Ite.mf ?_ ?_; focus (first | rfl | (simp; done) | (simp; omega))) | (refine And.intro ?_ ?_; focus (first | rfl | decide | (simp; done) | (simp; omega) | omega))) <;> (try conv => whnf))); exact q
  | hold w => ((try conv => whnf) <;> repeat ((first | (refine Ite.mt ?_ ?_; focus (first | rfl | (simp; done) | (simp; omega))) | (refine Ite.mf ?_ ?_; focus (first | rfl | (simp; done) | (simp; omega))) | (refine And.intro ?_ ?_; focus (first | rfl | decide | (simp; done) | (simp; omega) | omega))) <;> (try conv => whnf))); exact q

theorem th40 {n : Nat} (h : n ≤ 1000000) : n ≤ sizeLine := sz1000 h
def sp_first_state : FSpec := fun ds S R _ => ∃ c : Chn, ds = [c.d] ∧ c.Ok ∧ R (.val (memsT c.first)) S
theorem vc_first_state (ds S R) (h : sp_first_state ds S R (fun _ _ => False)) : wf_first_state sp_first_of (ENDS R) (env0 5 ds) S := by
  obtain ⟨c, rfl, ok, q⟩ := h
  ((try conv => whnf) <;> repeat ((first | (refine Ite.mt ?_ ?_; focus (first | rfl | (simp; done) | (simp; omega))) | (refine Ite.mf ?_ ?_; focus (first | rfl | (simp; done) | (simp; omega))) | (refine And.intro ?_ ?_; focus (first | rfl | decide | (simp; done) | (simp; omega) | omega))) <;> (try conv => whnf)))
  refine forW_map (f := Stg.d) (fun rem e s => ∃ (x : Int) (done : List Mem) (t3 t4 : Option T), e = [some (.val c.d), some (.val (.int x)), some (.val (memsT done)), t3, t4] ∧ s = S ∧ done ++ firstAll rem x = c.first ∧ done.length + rem.length ≤ 3) ?_ ?_ ⟨c.start, [], none, none, rfl, rfl, rfl, by simpa using ok.len⟩
  · rintro e s ⟨x, done, t3, t4, rfl, rfl, h1, h2⟩
    ((try conv => whnf) <;> repeat ((first | (refine Ite.mt ?_ ?_; focus (first | rfl | (simp; done) | (simp; omega))) | (refine Ite.mf ?_ ?_; focus (first | rfl | (simp; done) | (simp; omega))) | (refine And.intro ?_ ?_; focus (first | rfl | decide | (simp; done) | (simp; omega) | omega))) <;> (try conv => whnf)))
    rw [firstAll, List.append_nil] at h1
    rw [h1]
    exact q
  · rintro a as e s K ⟨x, done, t3, t4, rfl, rfl, h1, h2⟩ hK
    ((try conv => whnf) <;> repeat ((first | (refine Ite.mt ?_ ?_; focus (first | rfl | (simp; done) | (simp; omega))) | (refine Ite.mf ?_ ?_; focus (first | rfl | (simp; done) | (simp; omega))) | (refine And.intro ?_ ?_; focus (first | rfl | decide | (simp; done) | (simp; omega) | omega))) <;> (try conv => whnf)))
    refine ⟨a, x, rfl, ?_⟩
    ((try conv => whnf) <;> repeat ((first | (refine Ite.mt ?_ ?_; focus (first | rfl | (simp; done) | (simp; omega))) | (refine Ite.mf ?_ ?_; focus (first | rfl | (simp; done) | (simp; omega))) | (refine And.intro ?_ ?_; focus (first | rfl | decide | (simp; done) | (simp; omega) | omega))) <;> (try conv => whnf)))
    refine ⟨th40 (by simp; simp at h2; omega), ?_⟩
    ((try conv => whnf) <;> repeat ((first | (refine Ite.mt ?_ ?_; focus (first | rfl | (simp; done) | (simp; omega))) | (refine Ite.mf ?_ ?_; focus (first | rfl | (simp; done) | (simp; omega))) | (refine And.intro ?_ ?_; focus (first | rfl | decide | (simp; done) | (simp; omega) | omega))) <;> (try conv => whnf)))
    refine hK _ _ ⟨(firstOf a x).1, done ++ [(firstOf a x).2], _, _, by rw [memsT_snoc]; rfl, rfl, ?_, ?_⟩
    · rw [← h1, firstAll, List.append_assoc]; rfl
    · simp at h2 ⊢; omega

def sp_moved : FSpec := fun ds S R _ => ∃ (t : Int) (s : Stg) (m : Mem) (x : Int), ds = [s.d, m.d, .int x] ∧ s.Fit t m ∧ R (.val (.tup [.int (moved s m x).1, (moved s m x).2.d])) S
theorem vc_moved (ds S R) (h : sp_moved ds S R (fun _ _ => False)) : wf_moved sp_between (ENDS R) (env0 6 ds) S := by
  obtain ⟨t, s, m, x, rfl, hf, q⟩ := h
  cases s with
  | slew u d =>
    cases m with
    | two i j => exact hf.elim
    | one i => ((try conv => whnf) <;> repeat ((first | (refine Ite.mt ?_ ?_; focus (first | rfl | (simp; done) | (simp; omega))) | (refine Ite.mf ?_ ?_; focus (first | rfl | (simp; done) | (simp; omega))) | (refine And.intro ?_ ?_; focus (first | rfl | decide | (simp; done) | (simp; omega) | omega))) <;> (try conv => whnf))); refine ⟨_, _, _, rfl, ?_⟩; ((try conv => whnf) <;> repeat ((first | (refine Ite.mt ?_ ?_; focus (first | rfl | (simp; done) | (simp; omega))) | (refine Ite.mf ?_ ?_; focus (first | rfl | (simp; done) | (simp; omega))) | (refine And.intro ?_ ?_; focus (first | rfl | decide | (simp; done) | (simp; omega) | omega))) <;> (try conv => whnf))); exact q
  | clip l h => ((try conv => whnf) <;> repeat ((first | (refine Ite.mt ?_ ?_; focus (first | rfl | (simp; done) | (simp; omega))) | (refine Ite.mf ?_ ?_; focus (first | rfl | (simp; done) | (simp; omega))) | (refine And.intro ?_ ?_; focus (first | rfl | decide | (simp; done) | (simp; omega) | omega))) <;> (try conv => whnf))); refine ⟨_, _, _, rfl, ?_⟩; ((try conv => whnf) <;> repeat ((first | (refine Ite.mt ?_ ?_; focus (first | rfl | (simp; done) | (simp; omega))) | (refine Ite.mf ?_ ?_; focus (first | rfl | (simp; done) | (simp; omega))) | (refine And.intro ?_ ?_; focus (first | rfl | decide | (simp; done) | (simp; omega) | omega))) <;> (try conv => whnf))); exact q
  | gate l h =>
    cases m with
    | two i j => exact hf.elim
    | one i =>
      ((try conv => whnf) <;> repeat ((first | (refine Ite.mt ?_ ?_; focus (first | rfl | (simp; done) | (simp; omega))) | (refine Ite.mf ?_ ?_; focus (first | rfl | (simp; done) | (simp; omega))) | (refine And.intro ?_ ?_; focus (first | rfl | decide | (simp; done) | (simp; omega) | omega))) <;> (try conv => whnf)))
      refine Ite.intro (fun hc => ?_) (fun hc => ?_)
      · have hc : i = 1 := by simpa using hc
        ((try conv => whnf) <;> repeat ((first | (refine Ite.mt ?_ ?_; focus (first | rfl | (simp; done) | (simp; omega))) | (refine Ite.mf ?_ ?_; focus (first | rfl | (simp; done) | (simp; omega))) | (refine And.intro ?_ ?_; focus (first | rfl | decide | (simp; done) | (simp; omega) | omega))) <;> (try conv => whnf)))
        refine ⟨opn_mul x l x, ?_⟩
        ((try conv => whnf) <;> repeat ((first | (refine Ite.mt ?_ ?_; focus (first | rfl | (simp; done) | (simp; omega))) | (refine Ite.mf ?_ ?_; focus (first | rfl | (simp; done) | (simp; omega))) | (refine And.intro ?_ ?_; focus (first | rfl | decide | (simp; done) | (simp; omega) | omega))) <;> (try conv => whnf)))
        rw [show moved (.gate l h) (.one i) x = (x * opn l x, .one (opn l x)) from by simp [moved, hc]] at q
        exact q
      · have hc : ¬ i = 1 := by simpa using hc
        ((try conv => whnf) <;> repeat ((first | (refine Ite.mt ?_ ?_; focus (first | rfl | (simp; done) | (simp; omega))) | (refine Ite.mf ?_ ?_; focus (first | rfl | (simp; done) | (simp; omega))) | (refine And.intro ?_ ?_; focus (first | rfl | decide | (simp; done) | (simp; omega) | omega))) <;> (try conv => whnf)))
        refine ⟨opn_mul x h x, ?_⟩
        ((try conv => whnf) <;> repeat ((first | (refine Ite.mt ?_ ?_; focus (first | rfl | (simp; done) | (simp; omega))) | (refine Ite.mf ?_ ?_; focus (first | rfl | (simp; done) | (simp; omega))) | (refine And.intro ?_ ?_; focus (first | rfl | decide | (simp; done) | (simp; omega) | omega))) <;> (try conv => whnf)))
        rw [show moved (.gate l h) (.one i) x = (x * opn h x, .one (opn h x)) from by simp [moved, hc]] at q
        exact q
  | hold w =>
    cases m with
    | one i => exact hf.elim
    | two i j =>
      ((try conv => whnf) <;> repeat ((first | (refine Ite.mt ?_ ?_; focus (first | rfl | (simp; done) | (simp; omega))) | (refine Ite.mf ?_ ?_; focus (first | rfl | (simp; done) | (simp; omega))) | (refine And.intro ?_ ?_; focus (first | rfl | decide | (simp; done) | (simp; omega) | omega))) <;> (try conv => whnf)))
      refine Ite.intro (fun hc => ?_) (fun hc => ?_)
      · have hc : 0 < j := by simpa using hc
        ((try conv => whnf) <;> repeat ((first | (refine Ite.mt ?_ ?_; focus (first | rfl | (simp; done) | (simp; omega))) | (refine Ite.mf ?_ ?_; focus (first | rfl | (simp; done) | (simp; omega))) | (refine And.intro ?_ ?_; focus (first | rfl | decide | (simp; done) | (simp; omega) | omega))) <;> (try conv => whnf)))
        rw [show moved (.hold w) (.two i j) x = (i, .two i (j - 1)) from by simp [moved, hc]] at q
        exact q
      · have hc : ¬ 0 < j := by simpa using hc
        ((try conv => whnf) <;> repeat ((first | (refine Ite.mt ?_ ?_; focus (first | rfl | (simp; done) | (simp; omega))) | (refine Ite.mf ?_ ?_; focus (first | rfl | (simp; done) | (simp; omega))) | (refine And.intro ?_ ?_; focus (first | rfl | decide | (simp; done) | (simp; omega) | omega))) <;> (try conv => whnf)))
        refine Ite.intro (fun hc => ?_) (fun hc => ?_)
        · have hc' : ¬ x = i := by simpa using hc
          ((try conv => whnf) <;> repeat ((first | (refine Ite.mt ?_ ?_; focus (first | rfl | (simp; done) | (simp; omega))) | (refine Ite.mf ?_ ?_; focus (first | rfl | (simp; done) | (simp; omega))) | (refine And.intro ?_ ?_; focus (first | rfl | decide | (simp; done) | (simp; omega) | omega))) <;> (try conv => whnf)))
          rw [show moved (.hold w) (.two i j) x = (x, .two x w) from by simp [moved, hc']; omega] at q
          exact q
        · have hc' : x = i := by simpa using hc
          ((try conv => whnf) <;> repeat ((first | (refine Ite.mt ?_ ?_; focus (first | rfl | (simp; done) | (simp; omega))) | (refine Ite.mf ?_ ?_; focus (first | rfl | (simp; done) | (simp; omega))) | (refine And.intro ?_ ?_; focus (first | rfl | decide | (simp; done) | (simp; omega) | omega))) <;> (try conv => whnf)))
          rw [show moved (.hold w) (.two i j) x = (x, .two x 0) from by simp [moved, hc']; omega] at q
          exact q
theorem zipD_map {α β : Type} {f : α → D} {g : β → D} : ∀ {as : List α} {bs : List β}, zipD (as.map f) (bs.map g) = (as.zip bs).map fun p => .tup [f p.1, g p.2]
  | [], _ => by simp [zipD]
  | _ :: _, [] => by simp [zipD]
  | a :: as, b :: bs => by simp [zipD, zipD_map]
def sp_step : FSpec := fun ds S R _ => ∃ (t : Int) (ss : List Stg) (ms : List Mem) (x : Int), ds = [.tup (ss.map Stg.d), memsT ms, .int x] ∧ Fits t ss ms ∧ ss.length ≤ 1000 ∧ R (.val (.tup [.int (step ss ms x).1, memsT (step ss ms x).2])) S
theorem vc_step (ds S R) (h : sp_step ds S R (fun _ _ => False)) : wf_step sp_moved (ENDS R) (env0 7 ds) S := by
  obtain ⟨t, ss, ms, x, rfl, hf, hl, q⟩ := h
  ((try conv => whnf) <;> repeat ((first | (refine Ite.mt ?_ ?_; focus (first | rfl | (simp; done) | (simp; omega))) | (refine Ite.mf ?_ ?_; focus (first | rfl | (simp; done) | (simp; omega))) | (refine And.intro ?_ ?_; focus (first | rfl | decide | (simp; done) | (simp; omega) | omega))) <;> (try conv => whnf)))
  rw [zipD_map]
  refine forW_map (f := fun p : Stg × Mem => .tup [p.1.d, p.2.d]) (fun rem e s => ∃ (ss' : List Stg) (ms' : List Mem) (y : Int) (done : List Mem) (t4 t5 t6 : Option T), e = [some (.val (.tup (ss.map Stg.d))), some (.val (memsT ms)), some (.val (.int y)), some (.val (memsT done)), t4, t5, t6] ∧ s = S ∧ rem = ss'.zip ms' ∧ Fits t ss' ms' ∧ ((step ss' ms' y).1, done ++ (step ss' ms' y).2) = step ss ms x ∧ done.length + ss'.length ≤ 1000) ?_ ?_ ⟨ss, ms, x, [], none, none, none, rfl, rfl, rfl, hf, rfl, by simpa using hl⟩
  · rintro e s ⟨ss', ms', y, done, t4, t5, t6, rfl, rfl, h0, h1, h2, h3⟩
    ((try conv => whnf) <;> repeat ((first | (refine Ite.mt ?_ ?_; focus (first | rfl | (simp; done) | (simp; omega))) | (refine Ite.mf ?_ ?_; focus (first | rfl | (simp; done) | (simp; omega))) | (refine And.intro ?_ ?_; focus (first | rfl | decide | (simp; done) | (simp; omega) | omega))) <;> (try conv => whnf)))
    cases h1 with
    | cons _ _ => simp at h0
    | nil =>
      simp only [step, List.append_nil] at h2
      rw [← h2] at q
      exact q
  · rintro a as e s K ⟨ss', ms', y, done, t4, t5, t6, rfl, rfl, h0, h1, h2, h3⟩ hK
    cases h1 with
    | nil => simp at h0
    | @cons s m ss' ms' k1 k2 =>
      simp only [List.zip_cons_cons, List.cons.injEq] at h0
      obtain ⟨rfl, rfl⟩ := h0
      ((try conv => whnf) <;> repeat ((first | (refine Ite.mt ?_ ?_; focus (first | rfl | (simp; done) | (simp; omega))) | (refine Ite.mf ?_ ?_; focus (first | rfl | (simp; done) | (simp; omega))) | (refine And.intro ?_ ?_; focus (first | rfl | decide | (simp; done) | (simp; omega) | omega))) <;> (try conv => whnf)))
      refine ⟨t, s, m, y, rfl, k1, ?_⟩
      ((try conv => whnf) <;> repeat ((first | (refine Ite.mt ?_ ?_; focus (first | rfl | (simp; done) | (simp; omega))) | (refine Ite.mf ?_ ?_; focus (first | rfl | (simp; done) | (simp; omega))) | (refine And.intro ?_ ?_; focus (first | rfl | decide | (simp; done) | (simp; omega) | omega))) <;> (try conv => whnf)))
      refine ⟨th40 (by simp; simp at h3; omega), ?_⟩
      ((try conv => whnf) <;> repeat ((first | (refine Ite.mt ?_ ?_; focus (first | rfl | (simp; done) | (simp; omega))) | (refine Ite.mf ?_ ?_; focus (first | rfl | (simp; done) | (simp; omega))) | (refine And.intro ?_ ?_; focus (first | rfl | decide | (simp; done) | (simp; omega) | omega))) <;> (try conv => whnf)))
      refine hK _ _ ⟨ss', ms', (moved s m y).1, done ++ [(moved s m y).2], _, _, _, by rw [memsT_snoc]; rfl, rfl, rfl, k2, ?_, ?_⟩
      · rw [← h2, List.append_assoc]; rfl
      · simp at h3 ⊢; omega
def sp_run : FSpec := fun ds S R _ => ∃ (t : Int) (ss : List Stg) (ms : List Mem) (xs : List Int), ds = [.tup (ss.map Stg.d), memsT ms, intsT xs] ∧ Fits t ss ms ∧ ss.length ≤ 1000 ∧ (∀ s ∈ ss, s.Ok t) ∧ (∀ x ∈ xs, Lev t x) ∧ xs.length ≤ 100000 ∧ R (.val (.tup [intsT (runs ss ms xs).1, memsT (runs ss ms xs).2])) S
theorem vc_run (ds S R) (h : sp_run ds S R (fun _ _ => False)) : wf_run sp_step (ENDS R) (env0 6 ds) S := by
  obtain ⟨t, ss, ms, xs, rfl, hf, hl, ok, hx, hxl, q⟩ := h
  ((try conv => whnf) <;> repeat ((first | (refine Ite.mt ?_ ?_; focus (first | rfl | (simp; done) | (simp; omega))) | (refine Ite.mf ?_ ?_; focus (first | rfl | (simp; done) | (simp; omega))) | (refine And.intro ?_ ?_; focus (first | rfl | decide | (simp; done) | (simp; omega) | omega))) <;> (try conv => whnf)))
  refine forW_map (f := D.int) (fun rem e s => ∃ (ms' : List Mem) (outs : List Int) (t4 t5 : Option T), e = [some (.val (.tup (ss.map Stg.d))), some (.val (memsT ms')), some (.val (intsT xs)), some (.val (intsT outs)), t4, t5] ∧ s = S ∧ Fits t ss ms' ∧ (outs ++ (runs ss ms' rem).1, (runs ss ms' rem).2) = runs ss ms xs ∧ outs.length + rem.length ≤ 100000 ∧ ∀ x ∈ rem, Lev t x) ?_ ?_ ⟨ms, [], none, none, rfl, rfl, hf, rfl, by simpa using hxl, hx⟩
  · rintro e s ⟨ms', outs, t4, t5, rfl, rfl, h1, h2, h3, h4⟩
    ((try conv => whnf) <;> repeat ((first | (refine Ite.mt ?_ ?_; focus (first | rfl | (simp; done) | (simp; omega))) | (refine Ite.mf ?_ ?_; focus (first | rfl | (simp; done) | (simp; omega))) | (refine And.intro ?_ ?_; focus (first | rfl | decide | (simp; done) | (simp; omega) | omega))) <;> (try conv => whnf)))
    simp only [runs, List.append_nil] at h2
    rw [← h2] at q
    exact q
  · rintro a as e s K ⟨ms', outs, t4, t5, rfl, rfl, h1, h2, h3, h4⟩ hK
    ((try conv => whnf) <;> repeat ((first | (refine Ite.mt ?_ ?_; focus (first | rfl | (simp; done) | (simp; omega))) | (refine Ite.mf ?_ ?_; focus (first | rfl | (simp; done) | (simp; omega))) | (refine And.intro ?_ ?_; focus (first | rfl | decide | (simp; done) | (simp; omega) | omega))) <;> (try conv => whnf)))
    refine ⟨t, ss, ms', a, rfl, h1, hl, ?_⟩
    ((try conv => whnf) <;> repeat ((first | (refine Ite.mt ?_ ?_; focus (first | rfl | (simp; done) | (simp; omega))) | (refine Ite.mf ?_ ?_; focus (first | rfl | (simp; done) | (simp; omega))) | (refine And.intro ?_ ?_; focus (first | rfl | decide | (simp; done) | (simp; omega) | omega))) <;> (try conv => whnf)))
    refine ⟨th40 (by simp; simp at h3; omega), ?_⟩
    ((try conv => whnf) <;> repeat ((first | (refine Ite.mt ?_ ?_; focus (first | rfl | (simp; done) | (simp; omega))) | (refine Ite.mf ?_ ?_; focus (first | rfl | (simp; done) | (simp; omega))) | (refine And.intro ?_ ?_; focus (first | rfl | decide | (simp; done) | (simp; omega) | omega))) <;> (try conv => whnf)))
    refine hK _ _ ⟨(step ss ms' a).2, outs ++ [(step ss ms' a).1], _, _, by rw [intsT_snoc]; rfl, rfl, (step_ok ok h1 (h4 a (List.mem_cons_self ..))).2, ?_, ?_, fun x hx => h4 x (List.mem_cons_of_mem _ hx)⟩
    · rw [← h2, List.append_assoc]; rfl
    · simp at h3 ⊢; omega
def sp_output : FSpec := fun ds S R _ => ∃ (c : Chn) (xs : List Int), ds = [c.d, intsT xs] ∧ c.Ok ∧ Sig c.top 40 xs ∧ R (.val (intsT (runs c.stages c.first xs).1)) S
theorem vc_output (ds S R) (h : sp_output ds S R (fun _ _ => False)) : wf_output sp_run sp_first_state sp_need_signal sp_need_chain (ENDS R) (env0 2 ds) S := by
  obtain ⟨c, xs, rfl, ok, hx, q⟩ := h
  ((try conv => whnf) <;> repeat ((first | (refine Ite.mt ?_ ?_; focus (first | rfl | (simp; done) | (simp; omega))) | (refine Ite.mf ?_ ?_; focus (first | rfl | (simp; done) | (simp; omega))) | (refine And.intro ?_ ?_; focus (first | rfl | decide | (simp; done) | (simp; omega) | omega))) <;> (try conv => whnf)))
  refine ⟨c, rfl, ok, ?_⟩
  ((try conv => whnf) <;> repeat ((first | (refine Ite.mt ?_ ?_; focus (first | rfl | (simp; done) | (simp; omega))) | (refine Ite.mf ?_ ?_; focus (first | rfl | (simp; done) | (simp; omega))) | (refine And.intro ?_ ?_; focus (first | rfl | decide | (simp; done) | (simp; omega) | omega))) <;> (try conv => whnf)))
  refine ⟨c, xs, rfl, hx, ?_⟩
  ((try conv => whnf) <;> repeat ((first | (refine Ite.mt ?_ ?_; focus (first | rfl | (simp; done) | (simp; omega))) | (refine Ite.mf ?_ ?_; focus (first | rfl | (simp; done) | (simp; omega))) | (refine And.intro ?_ ?_; focus (first | rfl | decide | (simp; done) | (simp; omega) | omega))) <;> (try conv => whnf)))
  refine ⟨c, rfl, ok, ?_⟩
  ((try conv => whnf) <;> repeat ((first | (refine Ite.mt ?_ ?_; focus (first | rfl | (simp; done) | (simp; omega))) | (refine Ite.mf ?_ ?_; focus (first | rfl | (simp; done) | (simp; omega))) | (refine And.intro ?_ ?_; focus (first | rfl | decide | (simp; done) | (simp; omega) | omega))) <;> (try conv => whnf)))
  refine ⟨c.top, c.stages, c.first, xs, rfl, c.first_ok ok, by have := ok.len; omega, ok.ok, hx.1, by have := hx.2; omega, ?_⟩
  ((try conv => whnf) <;> repeat ((first | (refine Ite.mt ?_ ?_; focus (first | rfl | (simp; done) | (simp; omega))) | (refine Ite.mf ?_ ?_; focus (first | rfl | (simp; done) | (simp; omega))) | (refine And.intro ?_ ?_; focus (first | rfl | decide | (simp; done) | (simp; omega) | omega))) <;> (try conv => whnf)))
  exact q
def sp_state : FSpec := fun ds S R _ => ∃ (c : Chn) (xs : List Int), ds = [c.d, intsT xs] ∧ c.Ok ∧ Sig c.top 40 xs ∧ R (.val (memsT (runs c.stages c.first xs).2)) S
theorem vc_state (ds S R) (h : sp_state ds S R (fun _ _ => False)) : wf_state sp_run sp_first_state sp_need_signal sp_need_chain (ENDS R) (env0 2 ds) S := by
  obtain ⟨c, xs, rfl, ok, hx, q⟩ := h
  ((try conv => whnf) <;> repeat ((first | (refine Ite.mt ?_ ?_; focus (first | rfl | (simp; done) | (simp; omega))) | (refine Ite.mf ?_ ?_; focus (first | rfl | (simp; done) | (simp; omega))) | (refine And.intro ?_ ?_; focus (first | rfl | decide | (simp; done) | (simp; omega) | omega))) <;> (try conv => whnf)))
  refine ⟨c, rfl, ok, ?_⟩
  ((try conv => whnf) <;> repeat ((first | (refine Ite.mt ?_ ?_; focus (first | rfl | (simp; done) | (simp; omega))) | (refine Ite.mf ?_ ?_; focus (first | rfl | (simp; done) | (simp; omega))) | (refine And.intro ?_ ?_; focus (first | rfl | decide | (simp; done) | (simp; omega) | omega))) <;> (try conv => whnf)))
  refine ⟨c, xs, rfl, hx, ?_⟩
  ((try conv => whnf) <;> repeat ((first | (refine Ite.mt ?_ ?_; focus (first | rfl | (simp; done) | (simp; omega))) | (refine Ite.mf ?_ ?_; focus (first | rfl | (simp; done) | (simp; omega))) | (refine And.intro ?_ ?_; focus (first | rfl | decide | (simp; done) | (simp; omega) | omega))) <;> (try conv => whnf)))
  refine ⟨c, rfl, ok, ?_⟩
  ((try conv => whnf) <;> repeat ((first | (refine Ite.mt ?_ ?_; focus (first | rfl | (simp; done) | (simp; omega))) | (refine Ite.mf ?_ ?_; focus (first | rfl | (simp; done) | (simp; omega))) | (refine And.intro ?_ ?_; focus (first | rfl | decide | (simp; done) | (simp; omega) | omega))) <;> (try conv => whnf)))
  refine ⟨c.top, c.stages, c.first, xs, rfl, c.first_ok ok, by have := ok.len; omega, ok.ok, hx.1, by have := hx.2; omega, ?_⟩
  ((try conv => whnf) <;> repeat ((first | (refine Ite.mt ?_ ?_; focus (first | rfl | (simp; done) | (simp; omega))) | (refine Ite.mf ?_ ?_; focus (first | rfl | (simp; done) | (simp; omega))) | (refine And.intro ?_ ?_; focus (first | rfl | decide | (simp; done) | (simp; omega) | omega))) <;> (try conv => whnf)))
  exact q
def sp_passes : FSpec := fun ds S R _ => ∃ (c : Chn) (xs : List Int), ds = [c.d, intsT xs] ∧ c.Ok ∧ Sig c.top 40 xs ∧ R (.val (.bl (decide ((runs c.stages c.first xs).1 = xs)))) S
theorem vc_passes (ds S R) (h : sp_passes ds S R (fun _ _ => False)) : wf_passes sp_output (ENDS R) (env0 2 ds) S := by
  obtain ⟨c, xs, rfl, ok, hx, q⟩ := h
  ((try conv => whnf) <;> repeat ((first | (refine Ite.mt ?_ ?_; focus (first | rfl | (simp; done) | (simp; omega))) | (refine Ite.mf ?_ ?_; focus (first | rfl | (simp; done) | (simp; omega))) | (refine And.intro ?_ ?_; focus (first | rfl | decide | (simp; done) | (simp; omega) | omega))) <;> (try conv => whnf)))
  refine ⟨c, xs, rfl, ok, hx, ?_⟩
  (conv => whnf)
  refine ⟨⟨okd_cmp (ints_ok _), okd_cmp (ints_ok _)⟩, ?_⟩
  exact ofbl q (eqv_dec (ints_ok _) (ints_ok _) ints_iff)
end VC

set_option Elab.async false
set_option linter.all false
set_option maxRecDepth 100000
set_option maxHeartbeats 4000000
/-! M3: the laws' decks and helpers. -/
namespace VC
open PySem PySem.Spec PyProof.Rows L2
def DeckM (n : Int) (m : M) : Prop := ∃ a b c : Int, m = .lst [.int a, .int b, .int c] ∧ 0 ≤ b ∧ b < 2147483579 ∧ 0 ≤ c ∧ c ≤ n
def Deck (n : Int) (r : Nat) (S : Sto) : Prop := ∃ m, S[r]? = some m ∧ DeckM n m
def But1 (r : Nat) (S S' : Sto) : Prop := S'.length = S.length ∧ ∀ j, j ≠ r → S'[j]? = S[j]?
def sp__law_deck : FSpec := fun ds S R _ => ∃ x t : Int, ds = [.int x, .int t] ∧ 0 ≤ t ∧ ∀ m, DeckM t m → R (.own m) S
theorem vc__law_deck (ds S R) (h : sp__law_deck ds S R (fun _ _ => False)) : wf_law_deck (ENDS R) (env0 2 ds) S := by
  obtain ⟨x, t, rfl, h0, q⟩ := h
  have b0 : 0 ≤ x % 2147483579 := Int.emod_nonneg _ (by decide)
  have b1 : x % 2147483579 < 2147483579 := Int.emod_lt_of_pos _ (by decide)
  ((try conv => whnf) <;> repeat ((first | (refine Ite.mt ?_ ?_; focus (first | rfl | (simp; done) | (simp; omega))) | (refine Ite.mf ?_ ?_; focus (first | rfl | (simp; done) | (simp; omega))) | (refine And.intro ?_ ?_; focus (first | rfl | decide | (simp; done) | (simp; omega) | omega))) <;> (try conv => whnf)))
  refine ⟨by unfold CPow; decide, ?_⟩
  (conv => whnf)
  refine Ite.intro (fun hc => ?_) (fun hc => ?_)
  · ((try conv => whnf) <;> repeat ((first | (refine Ite.mt ?_ ?_; focus (first | rfl | (simp; done) | (simp; omega))) | (refine Ite.mf ?_ ?_; focus (first | rfl | (simp; done) | (simp; omega))) | (refine And.intro ?_ ?_; focus (first | rfl | decide | (simp; done) | (simp; omega) | omega))) <;> (try conv => whnf)))
    refine ⟨by unfold CPow; decide, ?_⟩
    ((try conv => whnf) <;> repeat ((first | (refine Ite.mt ?_ ?_; focus (first | rfl | (simp; done) | (simp; omega))) | (refine Ite.mf ?_ ?_; focus (first | rfl | (simp; done) | (simp; omega))) | (refine And.intro ?_ ?_; focus (first | rfl | decide | (simp; done) | (simp; omega) | omega))) <;> (try conv => whnf)))
    exact q _ ⟨_, _, _, rfl, b0, b1, h0, Int.le_refl _⟩
  · ((try conv => whnf) <;> repeat ((first | (refine Ite.mt ?_ ?_; focus (first | rfl | (simp; done) | (simp; omega))) | (refine Ite.mf ?_ ?_; focus (first | rfl | (simp; done) | (simp; omega))) | (refine And.intro ?_ ?_; focus (first | rfl | decide | (simp; done) | (simp; omega) | omega))) <;> (try conv => whnf)))
    exact q _ ⟨_, _, _, rfl, b0, b1, h0, Int.le_refl _⟩
theorem dr_ref {S : Sto} {r : Nat} {m : M} (h : S[r]? = some m) : dr S (.ref r) = m.d := by simp only [dr, h]
theorem get_set {S : Sto} {r : Nat} {m0 : M} (m : M) (h : S[r]? = some m0) : (S.set r m)[r]? = some m := List.getElem?_set_self (List.getElem?_eq_some_iff.mp h).1
theorem Deck.set {S : Sto} {r : Nat} {m0 m : M} {n : Int} (h : S[r]? = some m0) (hm : DeckM n m) : Deck n r (S.set r m) := ⟨m, get_set m h, hm⟩
theorem But1.set {S : Sto} {r : Nat} {m0 m : M} (h : S[r]? = some m0) : But1 r S (S.set r m) := ⟨List.length_set, fun j hj => List.getElem?_set_ne (Ne.symm hj)⟩
theorem But1.refl (r : Nat) (S : Sto) : But1 r S S := ⟨rfl, fun _ _ => rfl⟩
theorem But1.trans {r : Nat} {S S1 S2 : Sto} (a : But1 r S S1) (b : But1 r S1 S2) : But1 r S S2 := ⟨b.1.trans a.1, fun j hj => (b.2 j hj).trans (a.2 j hj)⟩
theorem Deck.mono {n k : Int} {r : Nat} {S : Sto} (h : Deck n r S) (hk : n ≤ k) : Deck k r S := let ⟨m, h1, a, b, c, e, h2, h3, h4, h5⟩ := h; ⟨m, h1, a, b, c, e, h2, h3, h4, Int.le_trans h5 hk⟩
def sp__law_pick : FSpec := fun ds S R _ => ∃ (r : Nat) (lim n : Int), ds = [.ref r, .int lim] ∧ Deck n r S ∧ n < 2 ^ 32 ∧ 0 < lim ∧ lim < 1000000 ∧ ∀ (k : Int) S', 0 ≤ k → k < lim → Deck (n + 1) r S' → But1 r S S' → R (.val (.int k)) S'
theorem vc__law_pick (ds S R) (h : sp__law_pick ds S R (fun _ _ => False)) : wf_law_pick (ENDS R) (env0 4 ds) S := by
  obtain ⟨r, lim, n, rfl, ⟨m, hS, a, b, c, rfl, b0, b1, c0, c1⟩, hn, l0, l1, q⟩ := h
  ((try conv => whnf) <;> repeat ((first | (refine Ite.mt ?_ ?_; focus (first | rfl | (simp; done) | (simp; omega))) | (refine Ite.mf ?_ ?_; focus (first | rfl | (simp; done) | (simp; omega))) | (refine And.intro ?_ ?_; focus (first | rfl | decide | (simp; done) | (simp; omega) | omega))) <;> (try conv => whnf)))
  rw [dr_ref hS]
  (conv => whnf)
  refine Ite.intro (fun hc => ?_) (fun hc => ?_)
  · ((try conv => whnf) <;> repeat ((first | (refine Ite.mt ?_ ?_; focus (first | rfl | (simp; done) | (simp; omega))) | (refine Ite.mf ?_ ?_; focus (first | rfl | (simp; done) | (simp; omega))) | (refine And.intro ?_ ?_; focus (first | rfl | decide | (simp; done) | (simp; omega) | omega))) <;> (try conv => whnf)))
    rw [dr_ref hS]
    (conv => whnf)
    refine ⟨l0, ?_⟩
    ((try conv => whnf) <;> repeat ((first | (refine Ite.mt ?_ ?_; focus (first | rfl | (simp; done) | (simp; omega))) | (refine Ite.mf ?_ ?_; focus (first | rfl | (simp; done) | (simp; omega))) | (refine And.intro ?_ ?_; focus (first | rfl | decide | (simp; done) | (simp; omega) | omega))) <;> (try conv => whnf)))
    rw [dr_ref hS]
    (conv => whnf)
    refine ⟨⟨l0, by omega⟩, ?_⟩
    ((try conv => whnf) <;> repeat ((first | (refine Ite.mt ?_ ?_; focus (first | rfl | (simp; done) | (simp; omega))) | (refine Ite.mf ?_ ?_; focus (first | rfl | (simp; done) | (simp; omega))) | (refine And.intro ?_ ?_; focus (first | rfl | decide | (simp; done) | (simp; omega) | omega))) <;> (try conv => whnf)))
    rw [hS]
    ((try conv => whnf) <;> repeat ((first | (refine Ite.mt ?_ ?_; focus (first | rfl | (simp; done) | (simp; omega))) | (refine Ite.mf ?_ ?_; focus (first | rfl | (simp; done) | (simp; omega))) | (refine And.intro ?_ ?_; focus (first | rfl | decide | (simp; done) | (simp; omega) | omega))) <;> (try conv => whnf)))
    exact q _ _ (Int.emod_nonneg _ (by omega)) (Int.emod_lt_of_pos _ l0) (Deck.set hS ⟨_, _, _, rfl, b0, b1, c0, by omega⟩) (But1.set hS)
  · ((try conv => whnf) <;> repeat ((first | (refine Ite.mt ?_ ?_; focus (first | rfl | (simp; done) | (simp; omega))) | (refine Ite.mf ?_ ?_; focus (first | rfl | (simp; done) | (simp; omega))) | (refine And.intro ?_ ?_; focus (first | rfl | decide | (simp; done) | (simp; omega) | omega))) <;> (try conv => whnf)))
    rw [dr_ref hS]
    ((try conv => whnf) <;> repeat ((first | (refine Ite.mt ?_ ?_; focus (first | rfl | (simp; done) | (simp; omega))) | (refine Ite.mf ?_ ?_; focus (first | rfl | (simp; done) | (simp; omega))) | (refine And.intro ?_ ?_; focus (first | rfl | decide | (simp; done) | (simp; omega) | omega))) <;> (try conv => whnf)))
    rw [hS]
    ((try conv => whnf) <;> repeat ((first | (refine Ite.mt ?_ ?_; focus (first | rfl | (simp; done) | (simp; omega))) | (refine Ite.mf ?_ ?_; focus (first | rfl | (simp; done) | (simp; omega))) | (refine And.intro ?_ ?_; focus (first | rfl | decide | (simp; done) | (simp; omega) | omega))) <;> (try conv => whnf)))
    have hS2 := get_set (M.lst ([D.int a, D.int b, D.int c].set 2 (T.val (D.int (c + 1))).d)) hS
    rw [dr_ref hS2]
    ((try conv => whnf) <;> repeat ((first | (refine Ite.mt ?_ ?_; focus (first | rfl | (simp; done) | (simp; omega))) | (refine Ite.mf ?_ ?_; focus (first | rfl | (simp; done) | (simp; omega))) | (refine And.intro ?_ ?_; focus (first | rfl | decide | (simp; done) | (simp; omega) | omega))) <;> (try conv => whnf)))
    rw [dr_ref hS2]
    ((try conv => whnf) <;> repeat ((first | (refine Ite.mt ?_ ?_; focus (first | rfl | (simp; done) | (simp; omega))) | (refine Ite.mf ?_ ?_; focus (first | rfl | (simp; done) | (simp; omega))) | (refine And.intro ?_ ?_; focus (first | rfl | decide | (simp; done) | (simp; omega) | omega))) <;> (try conv => whnf)))
    refine ⟨by right; constructor <;> omega, ?_⟩
    (conv => whnf)
    refine ⟨⟨by decide, by decide, by omega⟩, ?_⟩
    ((try conv => whnf) <;> repeat ((first | (refine Ite.mt ?_ ?_; focus (first | rfl | (simp; done) | (simp; omega))) | (refine Ite.mf ?_ ?_; focus (first | rfl | (simp; done) | (simp; omega))) | (refine And.intro ?_ ?_; focus (first | rfl | decide | (simp; done) | (simp; omega) | omega))) <;> (try conv => whnf)))
    have n0 : 0 ≤ (b + 15485867 * (c + 1)) ^ 5 % 2147483647 := Int.emod_nonneg _ (by decide)
    have n1 : (b + 15485867 * (c + 1)) ^ 5 % 2147483647 < 2147483647 := Int.emod_lt_of_pos _ (by decide)
    rw [dr_ref hS2]
    (conv => whnf)
    refine ⟨by right; constructor <;> omega, ?_⟩
    (conv => whnf)
    refine ⟨⟨by decide, by decide, ?_⟩, ?_⟩
    · show Int.natAbs ((b + 15485867 * (c + 1)) ^ 5 % 2147483647 + 7919 * (c + 1)) < _
      omega
    ((try conv => whnf) <;> repeat ((first | (refine Ite.mt ?_ ?_; focus (first | rfl | (simp; done) | (simp; omega))) | (refine Ite.mf ?_ ?_; focus (first | rfl | (simp; done) | (simp; omega))) | (refine And.intro ?_ ?_; focus (first | rfl | decide | (simp; done) | (simp; omega) | omega))) <;> (try conv => whnf)))
    refine ⟨by unfold CDiv; decide, ?_⟩
    ((try conv => whnf) <;> repeat ((first | (refine Ite.mt ?_ ?_; focus (first | rfl | (simp; done) | (simp; omega))) | (refine Ite.mf ?_ ?_; focus (first | rfl | (simp; done) | (simp; omega))) | (refine And.intro ?_ ?_; focus (first | rfl | decide | (simp; done) | (simp; omega) | omega))) <;> (try conv => whnf)))
    exact q _ _ (Int.emod_nonneg _ (by omega)) (Int.emod_lt_of_pos _ l0) (Deck.set hS ⟨_, _, _, rfl, b0, b1, by omega, by omega⟩) (But1.set hS)

def sp__law_bool : FSpec := fun ds S R _ => ∃ a b : Bool, ds = [.bl a, .bl b] ∧ R (.val (.bl (a == b))) S
theorem vc__law_bool (ds S R) (h : sp__law_bool ds S R (fun _ _ => False)) : wf_law_bool (ENDS R) (env0 2 ds) S := by
  obtain ⟨a, b, rfl, q⟩ := h
  ((try conv => whnf) <;> repeat ((first | (refine Ite.mt ?_ ?_; focus (first | rfl | (simp; done) | (simp; omega))) | (refine Ite.mf ?_ ?_; focus (first | rfl | (simp; done) | (simp; omega))) | (refine And.intro ?_ ?_; focus (first | rfl | decide | (simp; done) | (simp; omega) | omega))) <;> (try conv => whnf)))
  refine ⟨⟨rfl, rfl⟩, ?_⟩
  exact ofbl q rfl
mutual
/-- data of depth n at most -/
def datd : D → Nat → Bool
  | .non, _ => true
  | .bl _, _ => true
  | .int _, _ => true
  | .str x, _ => PyData.strOk x
  | .tup xs, n => match n with
    | 0 => false
    | n + 1 => decide (xs.length ≤ 1000000) && datds xs n
  | .lst xs, n => match n with
    | 0 => false
    | n + 1 => decide (xs.length ≤ 1000000) && datds xs n
  | .dct _ _, _ => false
  | .ref _, _ => false
  | .fn _, _ => false
  | .kst _, _ => false
def datds : List D → Nat → Bool
  | [], _ => true
  | x :: xs, n => datd x n && datds xs n
end
mutual
theorem datd_lay : ∀ (d : D) (n : Nat), datd d n = true → d.isData = true ∧ d.pd.canLay0 = true ∧ d.pd.depth ≤ n
  | .non, _, _ => by simp [D.isData, D.pd, PyData.canLay0, PyData.depth]
  | .int _, _, _ => by simp [D.isData, D.pd, PyData.canLay0, PyData.depth]
  | .bl _, _, _ => by simp [D.isData, D.pd, PyData.canLay0, PyData.depth]
  | .str x, _, h => by simp [datd] at h; simp [D.isData, D.pd, PyData.canLay0, PyData.depth, h]
  | .tup xs, n, h => by
    cases n with
    | zero => simp [datd] at h
    | succ n =>
      simp only [datd, Bool.and_eq_true] at h
      obtain ⟨h1, h2, h3⟩ := datds_lay xs n h.2
      simp only [D.isData, D.pd, PyData.canLay0, PyData.depth]
      exact ⟨h1, h2, Nat.succ_le_succ h3⟩
  | .lst xs, n, h => by
    cases n with
    | zero => simp [datd] at h
    | succ n =>
      simp only [datd, Bool.and_eq_true] at h
      obtain ⟨h1, h2, h3⟩ := datds_lay xs n h.2
      simp only [D.isData, D.pd, PyData.canLay0, PyData.depth]
      exact ⟨h1, h2, Nat.succ_le_succ h3⟩
  | .dct _ _, _, h => by simp [datd] at h
  | .ref _, _, h => by simp [datd] at h
  | .fn _, _, h => by simp [datd] at h
  | .kst _, _, h => by simp [datd] at h
theorem datds_lay : ∀ (ds : List D) (n : Nat), datds ds n = true → D.allData ds = true ∧ PyData.canLayAll0 (D.pds ds) = true ∧ PyData.depthAll (D.pds ds) ≤ n
  | [], _, _ => by simp [D.allData, D.pds, PyData.canLayAll0, PyData.depthAll]
  | x :: xs, n, h => by
    simp only [datds, Bool.and_eq_true] at h
    obtain ⟨h1, h2, h3⟩ := datd_lay x n h.1
    obtain ⟨k1, k2, k3⟩ := datds_lay xs n h.2
    simp only [D.allData, D.pds, PyData.canLayAll0, PyData.depthAll, Bool.and_eq_true]
    exact ⟨⟨h1, k1⟩, ⟨h2, k2⟩, Nat.max_le.mpr ⟨h3, k3⟩⟩
end
mutual
theorem eqv_refl : ∀ (d : D) (n : Nat), datd d n = true → D.eqv d d = true
  | .non, _, _ => rfl
  | .bl b, _, _ => by simp [D.eqv]
  | .int _, _, _ => by simp [D.eqv]
  | .str _, _, _ => by simp [D.eqv]
  | .tup xs, n, h => by
    cases n with
    | zero => simp [datd] at h
    | succ n =>
      simp only [datd, Bool.and_eq_true] at h
      simp only [D.eqv]
      exact eqvs_refl xs n h.2
  | .lst xs, n, h => by
    cases n with
    | zero => simp [datd] at h
    | succ n =>
      simp only [datd, Bool.and_eq_true] at h
      simp only [D.eqv]
      exact eqvs_refl xs n h.2
  | .dct _ _, _, h => by simp [datd] at h
  | .ref _, _, h => by simp [datd] at h
  | .fn _, _, h => by simp [datd] at h
  | .kst _, _, h => by simp [datd] at h
theorem eqvs_refl : ∀ (d : List D) (n : Nat), datds d n = true → D.eqvs d d = true
  | [], _, _ => rfl
  | x :: xs, n, h => by
    simp only [datds, Bool.and_eq_true] at h
    simp only [D.eqvs, eqv_refl x n h.1, eqvs_refl xs n h.2, Bool.and_self]
end
theorem datd_cmp {d : D} {n : Nat} (h : datd d n = true) (hn : n ≤ 64) : d.cmp = true := by
  obtain ⟨h1, h2, h3⟩ := datd_lay d n h
  simp only [D.cmp, SeqAt.shaped, Bool.and_eq_true, decide_eq_true_eq]
  exact ⟨h1, h2, Nat.le_trans h3 hn⟩
theorem datds_get {n : Nat} : ∀ {ds : List D} {i : Nat} {d : D}, datds ds n = true → ds[i]? = some d → datd d n = true
  | [], i, d, _, h => by simp at h
  | x :: xs, 0, d, h, e => by
    simp only [datds, Bool.and_eq_true] at h
    simp at e; rw [← e]; exact h.1
  | x :: xs, i + 1, d, h, e => by
    simp only [datds, Bool.and_eq_true] at h
    exact datds_get h.2 (by simpa using e)
theorem datds_all {n : Nat} : ∀ {ds : List D}, (∀ d ∈ ds, datd d n = true) → datds ds n = true
  | [], _ => rfl
  | x :: xs, h => by
    simp only [datds, Bool.and_eq_true]
    exact ⟨h x (List.mem_cons_self ..), datds_all fun d hd => h d (List.mem_cons_of_mem _ hd)⟩
def sortD : D → Option Int
  | .bl _ => some 1
  | .int _ => some 2
  | .str _ => some 3
  | .lst _ => some 4
  | .tup _ => some 5
  | .non => some 6
  | .dct _ _ => none
  | .ref _ => none
  | .fn _ => none
  | .kst _ => none
def sp__law_sort : FSpec := fun ds S R _ => ∃ (d : D) (k : Int), ds = [d] ∧ sortD d = some k ∧ R (.val (.int k)) S
theorem vc__law_sort (ds S R) (h : sp__law_sort ds S R (fun _ _ => False)) : wf_law_sort (ENDS R) (env0 1 ds) S := by
  obtain ⟨d, k, rfl, hk, q⟩ := h
  cases d <;> simp only [sortD, Option.some.injEq, reduceCtorEq] at hk <;> subst hk <;> (((try conv => whnf) <;> repeat ((first | (refine Ite.mt ?_ ?_; focus (first | rfl | (simp; done) | (simp; omega))) | (refine Ite.mf ?_ ?_; focus (first | rfl | (simp; done) | (simp; omega))) | (refine And.intro ?_ ?_; focus (first | rfl | decide | (simp; done) | (simp; omega) | omega))) <;> (try conv => whnf))); exact q)
theorem atD_nat {ds : List D} {i : Nat} {d : D} (h : ds[i]? = some d) : atD ds (i : Int) = some d := by
  show nthD ds i = some d
  rw [nthD_eq]; exact h
/-- both arguments the same -/
def sp__law_same (n : Nat) : FSpec := fun ds S R _ => ∃ d : D, ds = [d, d] ∧ datd d n = true ∧ R (.val (.bl true)) S
theorem vc__law_same (n : Nat) (hn : n ≤ 63) (sp : FSpec) (hsp : ∀ d S R, (∃ m, n = m + 1 ∧ datd d m = true) → R (.val (.bl true)) S → sp [d, d] S R (fun _ _ => False)) (ds S R) (h : sp__law_same n ds S R (fun _ _ => False)) : wf_law_same sp__law_sort sp (ENDS R) (env0 4 ds) S := by
  obtain ⟨d, rfl, hd, q⟩ := h
  have hc := datd_cmp hd (Nat.le_trans hn (by decide))
  have hr := eqv_refl d n hd
  have seq : ∀ (mk : List D → D) (xs : List D), (d = mk xs) → ((mk = .tup) ∨ (mk = .lst)) → wf_law_same sp__law_sort sp (ENDS R) (env0 4 [d, d]) S := by
    intro mk xs e hmk
    subst e
    obtain ⟨m, rfl, hl, hx⟩ : ∃ m, n = m + 1 ∧ xs.length ≤ 1000000 ∧ datds xs m = true := by
      cases n with
      | zero => rcases hmk with rfl | rfl <;> simp [datd] at hd
      | succ m =>
        refine ⟨m, rfl, ?_⟩
        rcases hmk with rfl | rfl <;> simpa [datd] using hd
    have key : ∀ (Q : List D → VEnv → Sto → Prop), Q [] [some (.val (mk xs)), some (.val (mk xs)), none, none] S → lcW [2, 3] (gT (gCs (gN 2) (gCs (gN 3) gNl))) (wNot (wTst (wCall 2 sp (wAC (wV 3) (wAC (wB opIxX (oV 1) (oV 2)) wA0))))) (wV 2)
        (enumD 0 xs) [] [some (.val (mk xs)), some (.val (mk xs)), none, none] S Q := by
      intro Q hQ
      refine lcW_ind (fun items acc e s => ∃ i, items = enumD i (xs.drop i) ∧ acc = [] ∧ e = [some (.val (mk xs)), some (.val (mk xs)), none, none] ∧ s = S) ?_ ?_ ⟨0, rfl, rfl, rfl, rfl⟩
      · rintro acc e s ⟨i, _, rfl, rfl, rfl⟩
        exact hQ
      · rintro d ds acc e s K ⟨i, h1, rfl, rfl, rfl⟩ hK
        cases hd' : xs.drop i with
        | nil => rw [hd'] at h1; simp [enumD] at h1
        | cons x r =>
          rw [hd'] at h1
          simp only [enumD, List.cons.injEq] at h1
          obtain ⟨rfl, rfl⟩ := h1
          have hi : xs[i]? = some x := by
            have := List.getElem?_drop (xs := xs) (i := i) (j := 0)
            rw [hd'] at this
            simpa using this.symm
          have hr' : xs.drop (i + 1) = r := by
            rw [← List.drop_drop, hd']; rfl
          rcases hmk with rfl | rfl
          · (conv => whnf)
            rw [atD_nat hi]
            ((try conv => whnf) <;> repeat ((first | (refine Ite.mt ?_ ?_; focus (first | rfl | (simp; done) | (simp; omega))) | (refine Ite.mf ?_ ?_; focus (first | rfl | (simp; done) | (simp; omega))) | (refine And.intro ?_ ?_; focus (first | rfl | decide | (simp; done) | (simp; omega) | omega))) <;> (try conv => whnf)))
            refine hsp x _ _ ⟨m, rfl, datds_get hx hi⟩ ?_
            ((try conv => whnf) <;> repeat ((first | (refine Ite.mt ?_ ?_; focus (first | rfl | (simp; done) | (simp; omega))) | (refine Ite.mf ?_ ?_; focus (first | rfl | (simp; done) | (simp; omega))) | (refine And.intro ?_ ?_; focus (first | rfl | decide | (simp; done) | (simp; omega) | omega))) <;> (try conv => whnf)))
            exact hK _ _ _ ⟨i + 1, by rw [hr'], rfl, rfl, rfl⟩
          · (conv => whnf)
            rw [atD_nat hi]
            ((try conv => whnf) <;> repeat ((first | (refine Ite.mt ?_ ?_; focus (first | rfl | (simp; done) | (simp; omega))) | (refine Ite.mf ?_ ?_; focus (first | rfl | (simp; done) | (simp; omega))) | (refine And.intro ?_ ?_; focus (first | rfl | decide | (simp; done) | (simp; omega) | omega))) <;> (try conv => whnf)))
            refine hsp x _ _ ⟨m, rfl, datds_get hx hi⟩ ?_
            ((try conv => whnf) <;> repeat ((first | (refine Ite.mt ?_ ?_; focus (first | rfl | (simp; done) | (simp; omega))) | (refine Ite.mf ?_ ?_; focus (first | rfl | (simp; done) | (simp; omega))) | (refine And.intro ?_ ?_; focus (first | rfl | decide | (simp; done) | (simp; omega) | omega))) <;> (try conv => whnf)))
            exact hK _ _ _ ⟨i + 1, by rw [hr'], rfl, rfl, rfl⟩
    rcases hmk with rfl | rfl
    · ((try conv => whnf) <;> repeat ((first | (refine Ite.mt ?_ ?_; focus (first | rfl | (simp; done) | (simp; omega))) | (refine Ite.mf ?_ ?_; focus (first | rfl | (simp; done) | (simp; omega))) | (refine And.intro ?_ ?_; focus (first | rfl | decide | (simp; done) | (simp; omega) | omega))) <;> (try conv => whnf)))
      refine ⟨_, _, rfl, rfl, ?_⟩
      (conv => whnf)
      refine ⟨rfl, _, _, rfl, rfl, ?_⟩
      ((try conv => whnf) <;> repeat ((first | (refine Ite.mt ?_ ?_; focus (first | rfl | (simp; done) | (simp; omega))) | (refine Ite.mf ?_ ?_; focus (first | rfl | (simp; done) | (simp; omega))) | (refine And.intro ?_ ?_; focus (first | rfl | decide | (simp; done) | (simp; omega) | omega))) <;> (try conv => whnf)))
      refine ⟨_, _, rfl, rfl, ?_⟩
      ((try conv => whnf) <;> repeat ((first | (refine Ite.mt ?_ ?_; focus (first | rfl | (simp; done) | (simp; omega))) | (refine Ite.mf ?_ ?_; focus (first | rfl | (simp; done) | (simp; omega))) | (refine And.intro ?_ ?_; focus (first | rfl | decide | (simp; done) | (simp; omega) | omega))) <;> (try conv => whnf)))
      refine ⟨_, _, rfl, rfl, ?_⟩
      ((try conv => whnf) <;> repeat ((first | (refine Ite.mt ?_ ?_; focus (first | rfl | (simp; done) | (simp; omega))) | (refine Ite.mf ?_ ?_; focus (first | rfl | (simp; done) | (simp; omega))) | (refine And.intro ?_ ?_; focus (first | rfl | decide | (simp; done) | (simp; omega) | omega))) <;> (try conv => whnf)))
      refine ⟨⟨rfl, by rw [enumD_len]; exact hl⟩, ?_⟩
      refine key _ ?_
      ((try conv => whnf) <;> repeat ((first | (refine Ite.mt ?_ ?_; focus (first | rfl | (simp; done) | (simp; omega))) | (refine Ite.mf ?_ ?_; focus (first | rfl | (simp; done) | (simp; omega))) | (refine And.intro ?_ ?_; focus (first | rfl | decide | (simp; done) | (simp; omega) | omega))) <;> (try conv => whnf)))
      refine ⟨⟨rfl, rfl⟩, ?_⟩
      exact ofbl q rfl
    · ((try conv => whnf) <;> repeat ((first | (refine Ite.mt ?_ ?_; focus (first | rfl | (simp; done) | (simp; omega))) | (refine Ite.mf ?_ ?_; focus (first | rfl | (simp; done) | (simp; omega))) | (refine And.intro ?_ ?_; focus (first | rfl | decide | (simp; done) | (simp; omega) | omega))) <;> (try conv => whnf)))
      refine ⟨_, _, rfl, rfl, ?_⟩
      (conv => whnf)
      refine ⟨rfl, _, _, rfl, rfl, ?_⟩
      ((try conv => whnf) <;> repeat ((first | (refine Ite.mt ?_ ?_; focus (first | rfl | (simp; done) | (simp; omega))) | (refine Ite.mf ?_ ?_; focus (first | rfl | (simp; done) | (simp; omega))) | (refine And.intro ?_ ?_; focus (first | rfl | decide | (simp; done) | (simp; omega) | omega))) <;> (try conv => whnf)))
      refine ⟨_, _, rfl, rfl, ?_⟩
      ((try conv => whnf) <;> repeat ((first | (refine Ite.mt ?_ ?_; focus (first | rfl | (simp; done) | (simp; omega))) | (refine Ite.mf ?_ ?_; focus (first | rfl | (simp; done) | (simp; omega))) | (refine And.intro ?_ ?_; focus (first | rfl | decide | (simp; done) | (simp; omega) | omega))) <;> (try conv => whnf)))
      refine ⟨_, _, rfl, rfl, ?_⟩
      ((try conv => whnf) <;> repeat ((first | (refine Ite.mt ?_ ?_; focus (first | rfl | (simp; done) | (simp; omega))) | (refine Ite.mf ?_ ?_; focus (first | rfl | (simp; done) | (simp; omega))) | (refine And.intro ?_ ?_; focus (first | rfl | decide | (simp; done) | (simp; omega) | omega))) <;> (try conv => whnf)))
      refine ⟨⟨rfl, by rw [enumD_len]; exact hl⟩, ?_⟩
      refine key _ ?_
      ((try conv => whnf) <;> repeat ((first | (refine Ite.mt ?_ ?_; focus (first | rfl | (simp; done) | (simp; omega))) | (refine Ite.mf ?_ ?_; focus (first | rfl | (simp; done) | (simp; omega))) | (refine And.intro ?_ ?_; focus (first | rfl | decide | (simp; done) | (simp; omega) | omega))) <;> (try conv => whnf)))
      refine ⟨⟨rfl, rfl⟩, ?_⟩
      exact ofbl q rfl
  cases d with
  | tup xs => exact seq .tup xs rfl (.inl rfl)
  | lst xs => exact seq .lst xs rfl (.inr rfl)
  | dct _ _ => simp [datd] at hd
  | ref _ => simp [datd] at hd
  | fn _ => simp [datd] at hd
  | kst _ => simp [datd] at hd
  | non =>
    ((try conv => whnf) <;> repeat ((first | (refine Ite.mt ?_ ?_; focus (first | rfl | (simp; done) | (simp; omega))) | (refine Ite.mf ?_ ?_; focus (first | rfl | (simp; done) | (simp; omega))) | (refine And.intro ?_ ?_; focus (first | rfl | decide | (simp; done) | (simp; omega) | omega))) <;> (try conv => whnf)))
    refine ⟨_, _, rfl, rfl, ?_⟩
    (conv => whnf)
    refine ⟨rfl, _, _, rfl, rfl, ?_⟩
    ((try conv => whnf) <;> repeat ((first | (refine Ite.mt ?_ ?_; focus (first | rfl | (simp; done) | (simp; omega))) | (refine Ite.mf ?_ ?_; focus (first | rfl | (simp; done) | (simp; omega))) | (refine And.intro ?_ ?_; focus (first | rfl | decide | (simp; done) | (simp; omega) | omega))) <;> (try conv => whnf)))
    refine ⟨_, _, rfl, rfl, ?_⟩
    ((try conv => whnf) <;> repeat ((first | (refine Ite.mt ?_ ?_; focus (first | rfl | (simp; done) | (simp; omega))) | (refine Ite.mf ?_ ?_; focus (first | rfl | (simp; done) | (simp; omega))) | (refine And.intro ?_ ?_; focus (first | rfl | decide | (simp; done) | (simp; omega) | omega))) <;> (try conv => whnf)))
    refine ⟨_, _, rfl, rfl, ?_⟩
    ((try conv => whnf) <;> repeat ((first | (refine Ite.mt ?_ ?_; focus (first | rfl | (simp; done) | (simp; omega))) | (refine Ite.mf ?_ ?_; focus (first | rfl | (simp; done) | (simp; omega))) | (refine And.intro ?_ ?_; focus (first | rfl | decide | (simp; done) | (simp; omega) | omega))) <;> (try conv => whnf)))
    refine ⟨⟨rfl, rfl⟩, ?_⟩
    exact ofbl q rfl
  | bl b =>
    ((try conv => whnf) <;> repeat ((first | (refine Ite.mt ?_ ?_; focus (first | rfl | (simp; done) | (simp; omega))) | (refine Ite.mf ?_ ?_; focus (first | rfl | (simp; done) | (simp; omega))) | (refine And.intro ?_ ?_; focus (first | rfl | decide | (simp; done) | (simp; omega) | omega))) <;> (try conv => whnf)))
    refine ⟨_, _, rfl, rfl, ?_⟩
    (conv => whnf)
    refine ⟨rfl, _, _, rfl, rfl, ?_⟩
    ((try conv => whnf) <;> repeat ((first | (refine Ite.mt ?_ ?_; focus (first | rfl | (simp; done) | (simp; omega))) | (refine Ite.mf ?_ ?_; focus (first | rfl | (simp; done) | (simp; omega))) | (refine And.intro ?_ ?_; focus (first | rfl | decide | (simp; done) | (simp; omega) | omega))) <;> (try conv => whnf)))
    refine ⟨_, _, rfl, rfl, ?_⟩
    ((try conv => whnf) <;> repeat ((first | (refine Ite.mt ?_ ?_; focus (first | rfl | (simp; done) | (simp; omega))) | (refine Ite.mf ?_ ?_; focus (first | rfl | (simp; done) | (simp; omega))) | (refine And.intro ?_ ?_; focus (first | rfl | decide | (simp; done) | (simp; omega) | omega))) <;> (try conv => whnf)))
    refine ⟨⟨rfl, rfl⟩, ?_⟩
    exact ofbl q (eqv_refl (.bl b) 0 rfl)
  | int i =>
    ((try conv => whnf) <;> repeat ((first | (refine Ite.mt ?_ ?_; focus (first | rfl | (simp; done) | (simp; omega))) | (refine Ite.mf ?_ ?_; focus (first | rfl | (simp; done) | (simp; omega))) | (refine And.intro ?_ ?_; focus (first | rfl | decide | (simp; done) | (simp; omega) | omega))) <;> (try conv => whnf)))
    refine ⟨_, _, rfl, rfl, ?_⟩
    (conv => whnf)
    refine ⟨rfl, _, _, rfl, rfl, ?_⟩
    ((try conv => whnf) <;> repeat ((first | (refine Ite.mt ?_ ?_; focus (first | rfl | (simp; done) | (simp; omega))) | (refine Ite.mf ?_ ?_; focus (first | rfl | (simp; done) | (simp; omega))) | (refine And.intro ?_ ?_; focus (first | rfl | decide | (simp; done) | (simp; omega) | omega))) <;> (try conv => whnf)))
    refine ⟨_, _, rfl, rfl, ?_⟩
    ((try conv => whnf) <;> repeat ((first | (refine Ite.mt ?_ ?_; focus (first | rfl | (simp; done) | (simp; omega))) | (refine Ite.mf ?_ ?_; focus (first | rfl | (simp; done) | (simp; omega))) | (refine And.intro ?_ ?_; focus (first | rfl | decide | (simp; done) | (simp; omega) | omega))) <;> (try conv => whnf)))
    exact ofbl q (by simp)
  | str x =>
    ((try conv => whnf) <;> repeat ((first | (refine Ite.mt ?_ ?_; focus (first | rfl | (simp; done) | (simp; omega))) | (refine Ite.mf ?_ ?_; focus (first | rfl | (simp; done) | (simp; omega))) | (refine And.intro ?_ ?_; focus (first | rfl | decide | (simp; done) | (simp; omega) | omega))) <;> (try conv => whnf)))
    refine ⟨_, _, rfl, rfl, ?_⟩
    (conv => whnf)
    refine ⟨rfl, _, _, rfl, rfl, ?_⟩
    ((try conv => whnf) <;> repeat ((first | (refine Ite.mt ?_ ?_; focus (first | rfl | (simp; done) | (simp; omega))) | (refine Ite.mf ?_ ?_; focus (first | rfl | (simp; done) | (simp; omega))) | (refine And.intro ?_ ?_; focus (first | rfl | decide | (simp; done) | (simp; omega) | omega))) <;> (try conv => whnf)))
    refine ⟨_, _, rfl, rfl, ?_⟩
    ((try conv => whnf) <;> repeat ((first | (refine Ite.mt ?_ ?_; focus (first | rfl | (simp; done) | (simp; omega))) | (refine Ite.mf ?_ ?_; focus (first | rfl | (simp; done) | (simp; omega))) | (refine And.intro ?_ ?_; focus (first | rfl | decide | (simp; done) | (simp; omega) | omega))) <;> (try conv => whnf)))
    exact ofbl q (by simp)
end VC

set_option Elab.async false
set_option linter.all false
set_option maxRecDepth 100000
set_option maxHeartbeats 4000000
/-! M4: the laws' chains, their own stages. -/
namespace VC
open PySem PySem.Spec PyProof.Rows L2
theorem clip2 {x l h : Int} (hl : l ≤ h) : (if (if x < h then x else h) > l then (if x < h then x else h) else l) = btw x l h := by
  unfold btw; repeat' split
  all_goals omega
def sp__law_first : FSpec := fun ds S R _ => ∃ c : Chn, ds = [c.d] ∧ c.Ok ∧ R (.val (memsT c.first)) S
theorem vc__law_first (ds S R) (h : sp__law_first ds S R (fun _ _ => False)) : wf_law_first (ENDS R) (env0 4 ds) S := by
  obtain ⟨c, rfl, ok, q⟩ := h
  ((try conv => whnf) <;> repeat ((first | (refine Ite.mt ?_ ?_; focus (first | rfl | (simp; done) | (simp; omega))) | (refine Ite.mf ?_ ?_; focus (first | rfl | (simp; done) | (simp; omega))) | (refine And.intro ?_ ?_; focus (first | rfl | decide | (simp; done) | (simp; omega) | omega))) <;> (try conv => whnf)))
  refine forW_map (f := Stg.d) (fun rem e s => ∃ (x : Int) (done : List Mem) (t3 : Option T), e = [some (.val c.d), some (.val (.int x)), some (.own (.lst (done.map Mem.d))), t3] ∧ s = S ∧ done ++ firstAll rem x = c.first ∧ done.length + rem.length ≤ 3 ∧ (∀ s ∈ rem, s.Ok c.top)) ?_ ?_ ⟨c.start, [], none, rfl, rfl, rfl, by simpa using ok.len, ok.ok⟩
  · rintro e s ⟨x, done, t3, rfl, rfl, h1, h2, h3⟩
    ((try conv => whnf) <;> repeat ((first | (refine Ite.mt ?_ ?_; focus (first | rfl | (simp; done) | (simp; omega))) | (refine Ite.mf ?_ ?_; focus (first | rfl | (simp; done) | (simp; omega))) | (refine And.intro ?_ ?_; focus (first | rfl | decide | (simp; done) | (simp; omega) | omega))) <;> (try conv => whnf)))
    rw [firstAll, List.append_nil] at h1
    rw [← h1] at q
    exact q
  · rintro a as e s K ⟨x, done, t3, rfl, rfl, h1, h2, h3⟩ hK
    have hl : (done.map Mem.d).length < 1000000 := by simp; simp at h2; omega
    have fin : ∀ t, K [some (.val c.d), some (.val (.int (firstOf a x).1)), some (.own (.lst (done.map Mem.d ++ [(firstOf a x).2.d]))), t] s := fun t =>
      hK _ _ ⟨(firstOf a x).1, done ++ [(firstOf a x).2], t, by rw [List.map_append]; rfl, rfl, by rw [← h1, firstAll, List.append_assoc]; rfl, by simp at h2 ⊢; omega, fun s hs => h3 s (List.mem_cons_of_mem _ hs)⟩
    cases a with
    | slew u d =>
      ((try conv => whnf) <;> repeat ((first | (refine Ite.mt ?_ ?_; focus (first | rfl | (simp; done) | (simp; omega))) | (refine Ite.mf ?_ ?_; focus (first | rfl | (simp; done) | (simp; omega))) | (refine And.intro ?_ ?_; focus (first | rfl | decide | (simp; done) | (simp; omega) | omega))) <;> (try conv => whnf)))
      exact fin _
    | clip l h =>
      ((try conv => whnf) <;> repeat ((first | (refine Ite.mt ?_ ?_; focus (first | rfl | (simp; done) | (simp; omega))) | (refine Ite.mf ?_ ?_; focus (first | rfl | (simp; done) | (simp; omega))) | (refine And.intro ?_ ?_; focus (first | rfl | decide | (simp; done) | (simp; omega) | omega))) <;> (try conv => whnf)))
      have e := clip2 (x := x) (h3 _ (List.mem_cons_self ..)).2.2.1
      have f := fin (some (.val (Stg.clip l h).d))
      simp only [firstOf] at f
      rw [← e] at f
      exact f
    | gate l h =>
      ((try conv => whnf) <;> repeat ((first | (refine Ite.mt ?_ ?_; focus (first | rfl | (simp; done) | (simp; omega))) | (refine Ite.mf ?_ ?_; focus (first | rfl | (simp; done) | (simp; omega))) | (refine And.intro ?_ ?_; focus (first | rfl | decide | (simp; done) | (simp; omega) | omega))) <;> (try conv => whnf)))
      refine Ite.intro (fun hc => ?_) (fun hc => ?_)
      · ((try conv => whnf) <;> repeat ((first | (refine Ite.mt ?_ ?_; focus (first | rfl | (simp; done) | (simp; omega))) | (refine Ite.mf ?_ ?_; focus (first | rfl | (simp; done) | (simp; omega))) | (refine And.intro ?_ ?_; focus (first | rfl | decide | (simp; done) | (simp; omega) | omega))) <;> (try conv => whnf)))
        refine Ite.mt hc ?_
        ((try conv => whnf) <;> repeat ((first | (refine Ite.mt ?_ ?_; focus (first | rfl | (simp; done) | (simp; omega))) | (refine Ite.mf ?_ ?_; focus (first | rfl | (simp; done) | (simp; omega))) | (refine And.intro ?_ ?_; focus (first | rfl | decide | (simp; done) | (simp; omega) | omega))) <;> (try conv => whnf)))
        have f := fin (some (.val (Stg.gate l h).d))
        simp only [firstOf, opn, hc, if_true, Int.mul_one] at f
        exact f
      · ((try conv => whnf) <;> repeat ((first | (refine Ite.mt ?_ ?_; focus (first | rfl | (simp; done) | (simp; omega))) | (refine Ite.mf ?_ ?_; focus (first | rfl | (simp; done) | (simp; omega))) | (refine And.intro ?_ ?_; focus (first | rfl | decide | (simp; done) | (simp; omega) | omega))) <;> (try conv => whnf)))
        refine Ite.mf hc ?_
        ((try conv => whnf) <;> repeat ((first | (refine Ite.mt ?_ ?_; focus (first | rfl | (simp; done) | (simp; omega))) | (refine Ite.mf ?_ ?_; focus (first | rfl | (simp; done) | (simp; omega))) | (refine And.intro ?_ ?_; focus (first | rfl | decide | (simp; done) | (simp; omega) | omega))) <;> (try conv => whnf)))
        have f := fin (some (.val (Stg.gate l h).d))
        rw [show firstOf (.gate l h) x = (0, .one 0) from by simp only [decide_eq_false_iff_not] at hc; simp [firstOf, opn, hc]] at f
        exact f
    | hold w =>
      ((try conv => whnf) <;> repeat ((first | (refine Ite.mt ?_ ?_; focus (first | rfl | (simp; done) | (simp; omega))) | (refine Ite.mf ?_ ?_; focus (first | rfl | (simp; done) | (simp; omega))) | (refine And.intro ?_ ?_; focus (first | rfl | decide | (simp; done) | (simp; omega) | omega))) <;> (try conv => whnf)))
      exact fin _
def sp__law_tick : FSpec := fun ds S R _ => ∃ (c : Chn) (ms : List Mem) (x : Int), ds = [c.d, memsT ms, .int x] ∧ Fits c.top c.stages ms ∧ c.stages.length ≤ 1000 ∧ (∀ s ∈ c.stages, s.Ok c.top) ∧ R (.val (.tup [.int (step c.stages ms x).1, memsT (step c.stages ms x).2])) S
theorem vc__law_tick (ds S R) (h : sp__law_tick ds S R (fun _ _ => False)) : wf_law_tick (ENDS R) (env0 6 ds) S := by
  obtain ⟨c, ms, x, rfl, hf, hl, ok, q⟩ := h
  ((try conv => whnf) <;> repeat ((first | (refine Ite.mt ?_ ?_; focus (first | rfl | (simp; done) | (simp; omega))) | (refine Ite.mf ?_ ?_; focus (first | rfl | (simp; done) | (simp; omega))) | (refine And.intro ?_ ?_; focus (first | rfl | decide | (simp; done) | (simp; omega) | omega))) <;> (try conv => whnf)))
  rw [zipD_map]
  refine forW_map (f := fun p : Stg × Mem => .tup [p.1.d, p.2.d]) (fun rem e s => ∃ (ss' : List Stg) (ms' : List Mem) (y : Int) (done : List Mem) (t4 t5 : Option T), e = [some (.val c.d), some (.val (memsT ms)), some (.val (.int y)), some (.own (.lst (done.map Mem.d))), t4, t5] ∧ s = S ∧ rem = ss'.zip ms' ∧ Fits c.top ss' ms' ∧ ((step ss' ms' y).1, done ++ (step ss' ms' y).2) = step c.stages ms x ∧ done.length + ss'.length ≤ 1000 ∧ (∀ s ∈ ss', s.Ok c.top)) ?_ ?_ ⟨c.stages, ms, x, [], none, none, rfl, rfl, rfl, hf, rfl, by simpa using hl, ok⟩
  · rintro e s ⟨ss', ms', y, done, t4, t5, rfl, rfl, h0, h1, h2, h3, h4⟩
    ((try conv => whnf) <;> repeat ((first | (refine Ite.mt ?_ ?_; focus (first | rfl | (simp; done) | (simp; omega))) | (refine Ite.mf ?_ ?_; focus (first | rfl | (simp; done) | (simp; omega))) | (refine And.intro ?_ ?_; focus (first | rfl | decide | (simp; done) | (simp; omega) | omega))) <;> (try conv => whnf)))
    cases h1 with
    | cons _ _ => simp at h0
    | nil =>
      simp only [step, List.append_nil] at h2
      rw [← h2] at q
      exact q
  · rintro a as e S K ⟨ss', ms', y, done, t4, t5, rfl, rfl, h0, h1, h2, h3, h4⟩ hK
    cases h1 with
    | nil => simp at h0
    | @cons s m ss' ms' k1 k2 =>
      simp only [List.zip_cons_cons, List.cons.injEq] at h0
      obtain ⟨rfl, rfl⟩ := h0
      have hl : (done.map Mem.d).length < 1000000 := by simp; simp at h3; omega
      have fin : ∀ t4 t5 (r : Int × Mem), moved s m y = r → K [some (.val c.d), some (.val (memsT ms)), some (.val (.int r.1)), some (.own (.lst (done.map Mem.d ++ [r.2.d]))), t4, t5] S := fun t4 t5 r er => by
        subst er
        exact hK _ _ ⟨ss', ms', (moved s m y).1, done ++ [(moved s m y).2], t4, t5, by rw [List.map_append]; rfl, rfl, rfl, k2, by rw [← h2, List.append_assoc]; rfl, by simp at h3 ⊢; omega, fun s hs => h4 s (List.mem_cons_of_mem _ hs)⟩
      have sok := h4 _ (List.mem_cons_self ..)
      cases s with
      | slew u d =>
        cases m with
        | two i j => exact k1.elim
        | one i =>
          obtain ⟨o1, o2, o3, o4⟩ := sok
          ((try conv => whnf) <;> repeat ((first | (refine Ite.mt ?_ ?_; focus (first | rfl | (simp; done) | (simp; omega))) | (refine Ite.mf ?_ ?_; focus (first | rfl | (simp; done) | (simp; omega))) | (refine And.intro ?_ ?_; focus (first | rfl | decide | (simp; done) | (simp; omega) | omega))) <;> (try conv => whnf)))
          refine Ite.intro (fun hc => ?_) (fun hc => ?_)
          · have hc' : i + u < y := by simpa using hc
            ((try conv => whnf) <;> repeat ((first | (refine Ite.mt ?_ ?_; focus (first | rfl | (simp; done) | (simp; omega))) | (refine Ite.mf ?_ ?_; focus (first | rfl | (simp; done) | (simp; omega))) | (refine And.intro ?_ ?_; focus (first | rfl | decide | (simp; done) | (simp; omega) | omega))) <;> (try conv => whnf)))
            ((try conv => whnf) <;> repeat ((first | (refine Ite.mt ?_ ?_; focus (first | rfl | (simp; done) | (simp; omega))) | (refine Ite.mf ?_ ?_; focus (first | rfl | (simp; done) | (simp; omega))) | (refine And.intro ?_ ?_; focus (first | rfl | decide | (simp; done) | (simp; omega) | omega))) <;> (try conv => whnf)))
            exact fin _ _ (i + u, .one (i + u)) (by simp only [moved, btw, Prod.mk.injEq, Mem.one.injEq]; repeat' split; all_goals omega)
          · have hc' : ¬ i + u < y := by simpa using hc
            ((try conv => whnf) <;> repeat ((first | (refine Ite.mt ?_ ?_; focus (first | rfl | (simp; done) | (simp; omega))) | (refine Ite.mf ?_ ?_; focus (first | rfl | (simp; done) | (simp; omega))) | (refine And.intro ?_ ?_; focus (first | rfl | decide | (simp; done) | (simp; omega) | omega))) <;> (try conv => whnf)))
            refine Ite.intro (fun hc => ?_) (fun hc => ?_)
            · have hc2 : y < i - d := by simpa using hc
              ((try conv => whnf) <;> repeat ((first | (refine Ite.mt ?_ ?_; focus (first | rfl | (simp; done) | (simp; omega))) | (refine Ite.mf ?_ ?_; focus (first | rfl | (simp; done) | (simp; omega))) | (refine And.intro ?_ ?_; focus (first | rfl | decide | (simp; done) | (simp; omega) | omega))) <;> (try conv => whnf)))
              exact fin _ _ (i - d, .one (i - d)) (by simp only [moved, btw, Prod.mk.injEq, Mem.one.injEq]; repeat' split; all_goals omega)
            · have hc2 : ¬ y < i - d := by simpa using hc
              ((try conv => whnf) <;> repeat ((first | (refine Ite.mt ?_ ?_; focus (first | rfl | (simp; done) | (simp; omega))) | (refine Ite.mf ?_ ?_; focus (first | rfl | (simp; done) | (simp; omega))) | (refine And.intro ?_ ?_; focus (first | rfl | decide | (simp; done) | (simp; omega) | omega))) <;> (try conv => whnf)))
              exact fin _ _ (y, .one y) (by simp only [moved, btw, Prod.mk.injEq, Mem.one.injEq]; repeat' split; all_goals omega)
      | clip l h =>
        ((try conv => whnf) <;> repeat ((first | (refine Ite.mt ?_ ?_; focus (first | rfl | (simp; done) | (simp; omega))) | (refine Ite.mf ?_ ?_; focus (first | rfl | (simp; done) | (simp; omega))) | (refine And.intro ?_ ?_; focus (first | rfl | decide | (simp; done) | (simp; omega) | omega))) <;> (try conv => whnf)))
        have e := clip2 (x := y) sok.2.2.1
        have f := fin (some (.val (Stg.clip l h).d)) (some (.val m.d)) _ rfl
        simp only [moved] at f
        rw [← e] at f
        exact f
      | gate l h =>
        cases m with
        | two i j => exact k1.elim
        | one i =>
          obtain ⟨o1, o2, o3, o4⟩ := sok
          have hi : i = 0 ∨ i = 1 := k1
          rcases hi with rfl | rfl
          · ((try conv => whnf) <;> repeat ((first | (refine Ite.mt ?_ ?_; focus (first | rfl | (simp; done) | (simp; omega))) | (refine Ite.mf ?_ ?_; focus (first | rfl | (simp; done) | (simp; omega))) | (refine And.intro ?_ ?_; focus (first | rfl | decide | (simp; done) | (simp; omega) | omega))) <;> (try conv => whnf)))
            refine Ite.intro (fun hc => ?_) (fun hc => ?_)
            · have hc' : h ≤ y := by simpa using hc
              ((try conv => whnf) <;> repeat ((first | (refine Ite.mt ?_ ?_; focus (first | rfl | (simp; done) | (simp; omega))) | (refine Ite.mf ?_ ?_; focus (first | rfl | (simp; done) | (simp; omega))) | (refine And.intro ?_ ?_; focus (first | rfl | decide | (simp; done) | (simp; omega) | omega))) <;> (try conv => whnf)))
              exact fin _ _ (y, .one 1) (by simp [moved, opn, hc'])
            · have hc' : ¬ h ≤ y := by simpa using hc
              ((try conv => whnf) <;> repeat ((first | (refine Ite.mt ?_ ?_; focus (first | rfl | (simp; done) | (simp; omega))) | (refine Ite.mf ?_ ?_; focus (first | rfl | (simp; done) | (simp; omega))) | (refine And.intro ?_ ?_; focus (first | rfl | decide | (simp; done) | (simp; omega) | omega))) <;> (try conv => whnf)))
              exact fin _ _ (0, .one 0) (by simp [moved, opn, hc'])
          · ((try conv => whnf) <;> repeat ((first | (refine Ite.mt ?_ ?_; focus (first | rfl | (simp; done) | (simp; omega))) | (refine Ite.mf ?_ ?_; focus (first | rfl | (simp; done) | (simp; omega))) | (refine And.intro ?_ ?_; focus (first | rfl | decide | (simp; done) | (simp; omega) | omega))) <;> (try conv => whnf)))
            refine Ite.intro (fun hc => ?_) (fun hc => ?_)
            · have hc' : y < l := by simpa using hc
              ((try conv => whnf) <;> repeat ((first | (refine Ite.mt ?_ ?_; focus (first | rfl | (simp; done) | (simp; omega))) | (refine Ite.mf ?_ ?_; focus (first | rfl | (simp; done) | (simp; omega))) | (refine And.intro ?_ ?_; focus (first | rfl | decide | (simp; done) | (simp; omega) | omega))) <;> (try conv => whnf)))
              exact fin _ _ (0, .one 0) (by have : ¬ l ≤ y := by omega
                                            simp [moved, opn, this])
            · have hc' : ¬ y < l := by simpa using hc
              ((try conv => whnf) <;> repeat ((first | (refine Ite.mt ?_ ?_; focus (first | rfl | (simp; done) | (simp; omega))) | (refine Ite.mf ?_ ?_; focus (first | rfl | (simp; done) | (simp; omega))) | (refine And.intro ?_ ?_; focus (first | rfl | decide | (simp; done) | (simp; omega) | omega))) <;> (try conv => whnf)))
              exact fin _ _ (y, .one 1) (by have : l ≤ y := by omega
                                            simp [moved, opn, this])
      | hold w =>
        cases m with
        | one i => exact k1.elim
        | two i j =>
          ((try conv => whnf) <;> repeat ((first | (refine Ite.mt ?_ ?_; focus (first | rfl | (simp; done) | (simp; omega))) | (refine Ite.mf ?_ ?_; focus (first | rfl | (simp; done) | (simp; omega))) | (refine And.intro ?_ ?_; focus (first | rfl | decide | (simp; done) | (simp; omega) | omega))) <;> (try conv => whnf)))
          refine Ite.intro (fun hc => ?_) (fun hc => ?_)
          · have hc' : 0 < j := by simpa using hc
            ((try conv => whnf) <;> repeat ((first | (refine Ite.mt ?_ ?_; focus (first | rfl | (simp; done) | (simp; omega))) | (refine Ite.mf ?_ ?_; focus (first | rfl | (simp; done) | (simp; omega))) | (refine And.intro ?_ ?_; focus (first | rfl | decide | (simp; done) | (simp; omega) | omega))) <;> (try conv => whnf)))
            exact fin _ _ (i, .two i (j - 1)) (by simp [moved, hc'])
          · have hc' : ¬ 0 < j := by simpa using hc
            ((try conv => whnf) <;> repeat ((first | (refine Ite.mt ?_ ?_; focus (first | rfl | (simp; done) | (simp; omega))) | (refine Ite.mf ?_ ?_; focus (first | rfl | (simp; done) | (simp; omega))) | (refine And.intro ?_ ?_; focus (first | rfl | decide | (simp; done) | (simp; omega) | omega))) <;> (try conv => whnf)))
            refine Ite.intro (fun hc => ?_) (fun hc => ?_)
            · have hc2 : y = i := by simpa using hc
              ((try conv => whnf) <;> repeat ((first | (refine Ite.mt ?_ ?_; focus (first | rfl | (simp; done) | (simp; omega))) | (refine Ite.mf ?_ ?_; focus (first | rfl | (simp; done) | (simp; omega))) | (refine And.intro ?_ ?_; focus (first | rfl | decide | (simp; done) | (simp; omega) | omega))) <;> (try conv => whnf)))
              exact fin _ _ (y, .two y 0) (by simp [moved, hc2]; omega)
            · have hc2 : ¬ y = i := by simpa using hc
              ((try conv => whnf) <;> repeat ((first | (refine Ite.mt ?_ ?_; focus (first | rfl | (simp; done) | (simp; omega))) | (refine Ite.mf ?_ ?_; focus (first | rfl | (simp; done) | (simp; omega))) | (refine And.intro ?_ ?_; focus (first | rfl | decide | (simp; done) | (simp; omega) | omega))) <;> (try conv => whnf)))
              exact fin _ _ (y, .two y w) (by simp [moved, hc2]; omega)
end VC

set_option Elab.async false
set_option linter.all false
set_option maxRecDepth 100000
set_option maxHeartbeats 4000000
/-! M5: random chains, signals. -/
namespace VC
open PySem PySem.Spec PyProof.Rows L2
def sp__law_ran : FSpec := fun ds S R _ => ∃ (c : Chn) (ms : List Mem) (xs : List Int), ds = [c.d, memsT ms, intsT xs] ∧ Fits c.top c.stages ms ∧ c.stages.length ≤ 1000 ∧ (∀ s ∈ c.stages, s.Ok c.top) ∧ (∀ x ∈ xs, Lev c.top x) ∧ xs.length ≤ 100000 ∧ R (.val (.tup [intsT (runs c.stages ms xs).1, memsT (runs c.stages ms xs).2])) S
theorem vc__law_ran (ds S R) (h : sp__law_ran ds S R (fun _ _ => False)) : wf_law_ran sp__law_tick (ENDS R) (env0 6 ds) S := by
  obtain ⟨c, ms, xs, rfl, hf, hl, ok, hx, hxl, q⟩ := h
  ((try conv => whnf) <;> repeat ((first | (refine Ite.mt ?_ ?_; focus (first | rfl | (simp; done) | (simp; omega))) | (refine Ite.mf ?_ ?_; focus (first | rfl | (simp; done) | (simp; omega))) | (refine And.intro ?_ ?_; focus (first | rfl | decide | (simp; done) | (simp; omega) | omega))) <;> (try conv => whnf)))
  refine forW_map (f := D.int) (fun rem e s => ∃ (ms' : List Mem) (outs : List Int) (t4 t5 : Option T), e = [some (.val c.d), some (.val (memsT ms')), some (.val (intsT xs)), some (.val (intsT outs)), t4, t5] ∧ s = S ∧ Fits c.top c.stages ms' ∧ (outs ++ (runs c.stages ms' rem).1, (runs c.stages ms' rem).2) = runs c.stages ms xs ∧ outs.length + rem.length ≤ 100000 ∧ ∀ x ∈ rem, Lev c.top x) ?_ ?_ ⟨ms, [], none, none, rfl, rfl, hf, rfl, by simpa using hxl, hx⟩
  · rintro e s ⟨ms', outs, t4, t5, rfl, rfl, h1, h2, h3, h4⟩
    ((try conv => whnf) <;> repeat ((first | (refine Ite.mt ?_ ?_; focus (first | rfl | (simp; done) | (simp; omega))) | (refine Ite.mf ?_ ?_; focus (first | rfl | (simp; done) | (simp; omega))) | (refine And.intro ?_ ?_; focus (first | rfl | decide | (simp; done) | (simp; omega) | omega))) <;> (try conv => whnf)))
    simp only [runs, List.append_nil] at h2
    rw [← h2] at q
    exact q
  · rintro a as e s K ⟨ms', outs, t4, t5, rfl, rfl, h1, h2, h3, h4⟩ hK
    ((try conv => whnf) <;> repeat ((first | (refine Ite.mt ?_ ?_; focus (first | rfl | (simp; done) | (simp; omega))) | (refine Ite.mf ?_ ?_; focus (first | rfl | (simp; done) | (simp; omega))) | (refine And.intro ?_ ?_; focus (first | rfl | decide | (simp; done) | (simp; omega) | omega))) <;> (try conv => whnf)))
    refine ⟨c, ms', a, rfl, h1, hl, ok, ?_⟩
    ((try conv => whnf) <;> repeat ((first | (refine Ite.mt ?_ ?_; focus (first | rfl | (simp; done) | (simp; omega))) | (refine Ite.mf ?_ ?_; focus (first | rfl | (simp; done) | (simp; omega))) | (refine And.intro ?_ ?_; focus (first | rfl | decide | (simp; done) | (simp; omega) | omega))) <;> (try conv => whnf)))
    refine ⟨th40 (by simp; simp at h3; omega), ?_⟩
    ((try conv => whnf) <;> repeat ((first | (refine Ite.mt ?_ ?_; focus (first | rfl | (simp; done) | (simp; omega))) | (refine Ite.mf ?_ ?_; focus (first | rfl | (simp; done) | (simp; omega))) | (refine And.intro ?_ ?_; focus (first | rfl | decide | (simp; done) | (simp; omega) | omega))) <;> (try conv => whnf)))
    refine hK _ _ ⟨(step c.stages ms' a).2, outs ++ [(step c.stages ms' a).1], _, _, by rw [intsT_snoc]; rfl, rfl, (step_ok ok h1 (h4 a (List.mem_cons_self ..))).2, ?_, ?_, fun x hx => h4 x (List.mem_cons_of_mem _ hx)⟩
    · rw [← h2, List.append_assoc]; rfl
    · simp at h3 ⊢; omega
def sp__law_stage : FSpec := fun ds S R _ => ∃ (r : Nat) (t n : Int) (b : Bool), ds = [.ref r, .int t, .bl b] ∧ Deck n r S ∧ n + 10 < 2 ^ 32 ∧ 0 < t ∧ t ≤ 5 ∧ ∀ (s : Stg) S', s.Ok t → (b = true → s.keep = false) → Deck (n + 10) r S' → But1 r S S' → R (.val s.d) S'
theorem vc__law_stage (ds S R) (h : sp__law_stage ds S R (fun _ _ => False)) : wf_law_stage sp__law_pick (ENDS R) (env0 6 ds) S := by
  obtain ⟨r, t, n, b, rfl, dk, hn, t0, t5, q⟩ := h
  ((try conv => whnf) <;> repeat ((first | (refine Ite.mt ?_ ?_; focus (first | rfl | (simp; done) | (simp; omega))) | (refine Ite.mf ?_ ?_; focus (first | rfl | (simp; done) | (simp; omega))) | (refine And.intro ?_ ?_; focus (first | rfl | decide | (simp; done) | (simp; omega) | omega))) <;> (try conv => whnf)))
  refine ⟨r, _, n, rfl, dk, by omega, by omega, by omega, fun lo S1 l0 l1 d1 b1 => ?_⟩
  ((try conv => whnf) <;> repeat ((first | (refine Ite.mt ?_ ?_; focus (first | rfl | (simp; done) | (simp; omega))) | (refine Ite.mf ?_ ?_; focus (first | rfl | (simp; done) | (simp; omega))) | (refine And.intro ?_ ?_; focus (first | rfl | decide | (simp; done) | (simp; omega) | omega))) <;> (try conv => whnf)))
  refine ⟨r, _, n + 1, rfl, d1, by omega, by omega, by omega, fun hi S2 i0 i1 d2 b2 => ?_⟩
  have b12 := b1.trans b2
  ((try conv => whnf) <;> repeat ((first | (refine Ite.mt ?_ ?_; focus (first | rfl | (simp; done) | (simp; omega))) | (refine Ite.mf ?_ ?_; focus (first | rfl | (simp; done) | (simp; omega))) | (refine And.intro ?_ ?_; focus (first | rfl | decide | (simp; done) | (simp; omega) | omega))) <;> (try conv => whnf)))
  refine Ite.intro (fun hc => ?_) (fun hc => ?_)
  · subst hc
    ((try conv => whnf) <;> repeat ((first | (refine Ite.mt ?_ ?_; focus (first | rfl | (simp; done) | (simp; omega))) | (refine Ite.mf ?_ ?_; focus (first | rfl | (simp; done) | (simp; omega))) | (refine And.intro ?_ ?_; focus (first | rfl | decide | (simp; done) | (simp; omega) | omega))) <;> (try conv => whnf)))
    exact q (.clip lo (lo + hi)) S2 ⟨by omega, by omega, by omega, by omega⟩ (fun _ => rfl) (d2.mono (by omega)) b12
  · subst hc
    ((try conv => whnf) <;> repeat ((first | (refine Ite.mt ?_ ?_; focus (first | rfl | (simp; done) | (simp; omega))) | (refine Ite.mf ?_ ?_; focus (first | rfl | (simp; done) | (simp; omega))) | (refine And.intro ?_ ?_; focus (first | rfl | decide | (simp; done) | (simp; omega) | omega))) <;> (try conv => whnf)))
    refine ⟨r, _, n + 1 + 1, rfl, d2, by omega, by omega, by omega, fun k3 S3 j0 j1 d3 b3 => ?_⟩
    have b13 := b12.trans b3
    (conv => whnf)
    refine Ite.intro (fun hc => ?_) (fun hc => ?_)
    · ((try conv => whnf) <;> repeat ((first | (refine Ite.mt ?_ ?_; focus (first | rfl | (simp; done) | (simp; omega))) | (refine Ite.mf ?_ ?_; focus (first | rfl | (simp; done) | (simp; omega))) | (refine And.intro ?_ ?_; focus (first | rfl | decide | (simp; done) | (simp; omega) | omega))) <;> (try conv => whnf)))
      exact q (.clip lo (lo + hi)) S3 ⟨by omega, by omega, by omega, by omega⟩ (fun _ => rfl) (d3.mono (by omega)) b13
    · ((try conv => whnf) <;> repeat ((first | (refine Ite.mt ?_ ?_; focus (first | rfl | (simp; done) | (simp; omega))) | (refine Ite.mf ?_ ?_; focus (first | rfl | (simp; done) | (simp; omega))) | (refine And.intro ?_ ?_; focus (first | rfl | decide | (simp; done) | (simp; omega) | omega))) <;> (try conv => whnf)))
      refine ⟨r, _, n + 1 + 1 + 1, rfl, d3, by omega, by omega, by omega, fun way S4 w0 w1 d4 b4 => ?_⟩
      have b14 := b13.trans b4
      (conv => whnf)
      refine Ite.intro (fun hc2 => ?_) (fun hc2 => ?_)
      · ((try conv => whnf) <;> repeat ((first | (refine Ite.mt ?_ ?_; focus (first | rfl | (simp; done) | (simp; omega))) | (refine Ite.mf ?_ ?_; focus (first | rfl | (simp; done) | (simp; omega))) | (refine And.intro ?_ ?_; focus (first | rfl | decide | (simp; done) | (simp; omega) | omega))) <;> (try conv => whnf)))
        exact q (.gate lo (lo + hi)) S4 ⟨by omega, by omega, by omega, by omega⟩ (fun h => by cases h) (d4.mono (by omega)) b14
      · (conv => whnf)
        refine Ite.intro (fun hc3 => ?_) (fun hc3 => ?_)
        · ((try conv => whnf) <;> repeat ((first | (refine Ite.mt ?_ ?_; focus (first | rfl | (simp; done) | (simp; omega))) | (refine Ite.mf ?_ ?_; focus (first | rfl | (simp; done) | (simp; omega))) | (refine And.intro ?_ ?_; focus (first | rfl | decide | (simp; done) | (simp; omega) | omega))) <;> (try conv => whnf)))
          refine ⟨r, _, n + 1 + 1 + 1 + 1, rfl, d4, by omega, by omega, by omega, fun k5 S5 p0 p1 d5 b5 => ?_⟩
          ((try conv => whnf) <;> repeat ((first | (refine Ite.mt ?_ ?_; focus (first | rfl | (simp; done) | (simp; omega))) | (refine Ite.mf ?_ ?_; focus (first | rfl | (simp; done) | (simp; omega))) | (refine And.intro ?_ ?_; focus (first | rfl | decide | (simp; done) | (simp; omega) | omega))) <;> (try conv => whnf)))
          exact q (.hold (1 + k5)) S5 ⟨by omega, by omega⟩ (fun h => by cases h) (d5.mono (by omega)) (b14.trans b5)
        · ((try conv => whnf) <;> repeat ((first | (refine Ite.mt ?_ ?_; focus (first | rfl | (simp; done) | (simp; omega))) | (refine Ite.mf ?_ ?_; focus (first | rfl | (simp; done) | (simp; omega))) | (refine And.intro ?_ ?_; focus (first | rfl | decide | (simp; done) | (simp; omega) | omega))) <;> (try conv => whnf)))
          refine ⟨r, _, n + 1 + 1 + 1 + 1, rfl, d4, by omega, by split <;> omega, by split <;> omega, fun k5 S5 p0 p1 d5 b5 => ?_⟩
          ((try conv => whnf) <;> repeat ((first | (refine Ite.mt ?_ ?_; focus (first | rfl | (simp; done) | (simp; omega))) | (refine Ite.mf ?_ ?_; focus (first | rfl | (simp; done) | (simp; omega))) | (refine And.intro ?_ ?_; focus (first | rfl | decide | (simp; done) | (simp; omega) | omega))) <;> (try conv => whnf)))
          refine ⟨r, _, n + 1 + 1 + 1 + 1 + 1, rfl, d5, by omega, by split <;> omega, by split <;> omega, fun k6 S6 q0 q1 d6 b6 => ?_⟩
          ((try conv => whnf) <;> repeat ((first | (refine Ite.mt ?_ ?_; focus (first | rfl | (simp; done) | (simp; omega))) | (refine Ite.mf ?_ ?_; focus (first | rfl | (simp; done) | (simp; omega))) | (refine And.intro ?_ ?_; focus (first | rfl | decide | (simp; done) | (simp; omega) | omega))) <;> (try conv => whnf)))
          exact q (.slew k5 k6) S6 ⟨by omega, by split at p1 <;> omega, by omega, by split at q1 <;> omega⟩ (fun h => by cases h) (d6.mono (by omega)) ((b14.trans b5).trans b6)
def sp__law_chain : FSpec := fun ds S R _ => ∃ (r : Nat) (m k n : Int), ds = [.ref r, .int m, .int k] ∧ Deck n r S ∧ n + 50 < 2 ^ 32 ∧ 1 ≤ m ∧ m ≤ 5 ∧ 0 ≤ k ∧ k ≤ 3 ∧ ∀ (c : Chn) S', c.Ok → c.top ≤ m → c.stages.length ≤ k → Deck (n + 50) r S' → But1 r S S' → R (.val c.d) S'
theorem keeps_snoc (l : List Stg) (s : Stg) : keeps (l ++ [s]) = keeps l + (if s.keep then 1 else 0) := by
  unfold keeps
  rw [List.filter_append, List.length_append]
  cases h : s.keep <;> simp [List.filter, h]
@[reducible] def stgsT (l : List Stg) : D := .tup (l.map Stg.d)
theorem stgsT_snoc (l : List Stg) (m : Stg) : stgsT (l ++ [m]) = .tup (l.map Stg.d ++ [m.d]) := by simp [stgsT]
theorem vc__law_chain (ds S R) (h : sp__law_chain ds S R (fun _ _ => False)) : wf_law_chain sp__law_pick sp__law_stage (ENDS R) (env0 8 ds) S := by
  obtain ⟨r, m, k, n, rfl, dk, hn, m1, m5, k0, k3, q⟩ := h
  ((try conv => whnf) <;> repeat ((first | (refine Ite.mt ?_ ?_; focus (first | rfl | (simp; done) | (simp; omega))) | (refine Ite.mf ?_ ?_; focus (first | rfl | (simp; done) | (simp; omega))) | (refine And.intro ?_ ?_; focus (first | rfl | decide | (simp; done) | (simp; omega) | omega))) <;> (try conv => whnf)))
  refine ⟨r, _, n, rfl, dk, by omega, by omega, by omega, fun t S1 l0 l1 d1 b1 => ?_⟩
  ((try conv => whnf) <;> repeat ((first | (refine Ite.mt ?_ ?_; focus (first | rfl | (simp; done) | (simp; omega))) | (refine Ite.mf ?_ ?_; focus (first | rfl | (simp; done) | (simp; omega))) | (refine And.intro ?_ ?_; focus (first | rfl | decide | (simp; done) | (simp; omega) | omega))) <;> (try conv => whnf)))
  refine ⟨r, _, n + 1, rfl, d1, by omega, by omega, by omega, fun u S2 i0 i1 d2 b2 => ?_⟩
  ((try conv => whnf) <;> repeat ((first | (refine Ite.mt ?_ ?_; focus (first | rfl | (simp; done) | (simp; omega))) | (refine Ite.mf ?_ ?_; focus (first | rfl | (simp; done) | (simp; omega))) | (refine And.intro ?_ ?_; focus (first | rfl | decide | (simp; done) | (simp; omega) | omega))) <;> (try conv => whnf)))
  have b12 := b1.trans b2
  refine forW_rng (fun i e s => ∃ (l : List Stg) (t6 t7 : Option T), e = [some (.val (.ref r)), some (.val (.int m)), some (.val (.int k)), some (.val (.int (1 + t))), some (.val (stgsT l)), some (.val (.int (keeps l : Nat))), t6, t7] ∧ l.length = i ∧ keeps l ≤ 2 ∧ (∀ s ∈ l, s.Ok (1 + t)) ∧ Deck (n + 2 + 10 * (i : Int)) r s ∧ But1 r S s) ?_ ?_ ⟨[], none, none, rfl, rfl, by decide, fun _ h => by simp at h, d2.mono (by omega), b12⟩
  · rintro e s ⟨l, t6, t7, rfl, h1, h2, h3, h4, h5⟩
    ((try conv => whnf) <;> repeat ((first | (refine Ite.mt ?_ ?_; focus (first | rfl | (simp; done) | (simp; omega))) | (refine Ite.mf ?_ ?_; focus (first | rfl | (simp; done) | (simp; omega))) | (refine And.intro ?_ ?_; focus (first | rfl | decide | (simp; done) | (simp; omega) | omega))) <;> (try conv => whnf)))
    refine ⟨r, _, _, rfl, h4, by omega, by omega, by omega, fun st S3 j0 j1 d3 b3 => ?_⟩
    ((try conv => whnf) <;> repeat ((first | (refine Ite.mt ?_ ?_; focus (first | rfl | (simp; done) | (simp; omega))) | (refine Ite.mf ?_ ?_; focus (first | rfl | (simp; done) | (simp; omega))) | (refine And.intro ?_ ?_; focus (first | rfl | decide | (simp; done) | (simp; omega) | omega))) <;> (try conv => whnf)))
    exact q ⟨1 + t, st, l⟩ S3 ⟨by simp; omega, by simp; omega, j0, by simp; omega, by simp; omega, h3, h2⟩ (by simp; omega) (by simp; omega) (d3.mono (by omega)) (h5.trans b3)
  · rintro i e s K hi ⟨l, t6, t7, rfl, h1, h2, h3, h4, h5⟩ hK
    ((try conv => whnf) <;> repeat ((first | (refine Ite.mt ?_ ?_; focus (first | rfl | (simp; done) | (simp; omega))) | (refine Ite.mf ?_ ?_; focus (first | rfl | (simp; done) | (simp; omega))) | (refine And.intro ?_ ?_; focus (first | rfl | decide | (simp; done) | (simp; omega) | omega))) <;> (try conv => whnf)))
    refine ⟨r, _, _, _, rfl, h4, by omega, by omega, by omega, fun st S3 j0 j1 d3 b3 => ?_⟩
    have kl : keeps (l ++ [st]) ≤ 2 := by
      rw [keeps_snoc]
      cases hk : st.keep with
      | false => simpa using h2
      | true =>
        have : ¬ (keeps l = 2) := fun e => by
          have := j1 (by simp [e])
          rw [hk] at this; cases this
        simp; omega
    have fin : ∀ t6, K [some (.val (.ref r)), some (.val (.int m)), some (.val (.int k)), some (.val (.int (1 + t))), some (.val (stgsT (l ++ [st]))), some (.val (.int ((keeps l : Nat) + (if st.keep then 1 else 0)))), t6, some (.val st.d)] S3 := fun t6 =>
      hK _ _ ⟨l ++ [st], t6, _, by rw [keeps_snoc]; cases st.keep <;> rfl, by simp [h1], kl, fun s hs => by
        rcases List.mem_append.mp hs with h | h
        · exact h3 s h
        · rw [List.mem_singleton.mp h]; exact j0, d3.mono (by push_cast; omega), h5.trans b3⟩
    rw [stgsT_snoc] at fin
    cases st with
    | slew _ _ => ((try conv => whnf) <;> repeat ((first | (refine Ite.mt ?_ ?_; focus (first | rfl | (simp; done) | (simp; omega))) | (refine Ite.mf ?_ ?_; focus (first | rfl | (simp; done) | (simp; omega))) | (refine And.intro ?_ ?_; focus (first | rfl | decide | (simp; done) | (simp; omega) | omega))) <;> (try conv => whnf))); refine ⟨th40 (by simp; omega), ?_⟩; exact fin _
    | clip _ _ => ((try conv => whnf) <;> repeat ((first | (refine Ite.mt ?_ ?_; focus (first | rfl | (simp; done) | (simp; omega))) | (refine Ite.mf ?_ ?_; focus (first | rfl | (simp; done) | (simp; omega))) | (refine And.intro ?_ ?_; focus (first | rfl | decide | (simp; done) | (simp; omega) | omega))) <;> (try conv => whnf))); refine ⟨th40 (by simp; omega), ?_⟩; exact fin _
    | gate _ _ => ((try conv => whnf) <;> repeat ((first | (refine Ite.mt ?_ ?_; focus (first | rfl | (simp; done) | (simp; omega))) | (refine Ite.mf ?_ ?_; focus (first | rfl | (simp; done) | (simp; omega))) | (refine And.intro ?_ ?_; focus (first | rfl | decide | (simp; done) | (simp; omega) | omega))) <;> (try conv => whnf))); refine ⟨th40 (by simp; omega), ?_⟩; exact fin _
    | hold _ => ((try conv => whnf) <;> repeat ((first | (refine Ite.mt ?_ ?_; focus (first | rfl | (simp; done) | (simp; omega))) | (refine Ite.mf ?_ ?_; focus (first | rfl | (simp; done) | (simp; omega))) | (refine And.intro ?_ ?_; focus (first | rfl | decide | (simp; done) | (simp; omega) | omega))) <;> (try conv => whnf))); refine ⟨th40 (by simp; omega), ?_⟩; exact fin _

def sp__law_levels : FSpec := fun ds S R _ => ∃ (r : Nat) (t m n : Int), ds = [.ref r, .int t, .int m] ∧ Deck n r S ∧ n + 200 < 2 ^ 32 ∧ 0 ≤ t ∧ t ≤ 5 ∧ 0 ≤ m ∧ m ≤ 100 ∧ ∀ (l : List Int) S', Sig t m.toNat l → Deck (n + 200) r S' → But1 r S S' → R (.val (intsT l)) S'
theorem rngD_len (lo : Int) (n : Nat) : (rngD lo n).length = n := by simp [rngD]
theorem lcW_rng {vs : List Nat} {G : WG} {Wt : WT} {We : WE} {Q : List D → VEnv → Sto → Prop} {lo : Int} {n : Nat} (J : Nat → List D → VEnv → Sto → Prop) (fin : ∀ acc e s, J n acc e s → Q acc e s)
    (stp : ∀ (i : Nat) acc e s (K : List D → VEnv → Sto → Prop), i < n → J i acc e s → (∀ acc e s, J (i + 1) acc e s → K acc e s) → G (.int (lo + (i : Int))) e s fun e1 s1 => Wt e1 s1 fun b e2 s2 => Ite b (We e2 s2 fun t e3 s3 => K (acc ++ [t.d]) (wpE e3 vs) s3) (K acc (wpE e2 vs) s2))
    {acc : List D} {e : VEnv} {s : Sto} (h : J 0 acc e s) : lcW vs G Wt We (rngD lo n) acc e s Q := by
  have key : ∀ (l : List Nat) (acc : List D) (e : VEnv) (s : Sto) (i : Nat), l = (List.range n).drop i → i ≤ n → J i acc e s → lcW vs G Wt We (l.map fun (i : Nat) => .int (lo + (i : Int))) acc e s Q := by
    intro l
    induction l with
    | nil =>
      intro acc e s i hl hi h
      have : n ≤ i := by simpa using (List.drop_eq_nil_iff.mp hl.symm)
      have e1 : i = n := by omega
      subst e1
      exact fin acc e s h
    | cons a l ih =>
      intro acc e s i hl hi h
      have hi' : i < n := by
        refine Nat.lt_of_not_le fun q => ?_
        rw [List.drop_eq_nil_of_le (by simpa using q)] at hl
        cases hl
      rw [List.drop_eq_getElem_cons (by simpa using hi')] at hl
      obtain ⟨h1, h2⟩ := List.cons.inj hl
      have h1 : a = i := by simpa using h1
      subst h1
      exact stp a acc e s _ hi' h fun acc e s h => ih acc e s (a + 1) h2 hi' h
  unfold rngD
  exact key _ acc e s 0 (by simp) (Nat.zero_le _) h
theorem vc__law_levels (ds S R) (h : sp__law_levels ds S R (fun _ _ => False)) : wf_law_levels sp__law_pick (ENDS R) (env0 4 ds) S := by
  obtain ⟨r, t, m, n, rfl, dk, hn, t0, t5, m0, m1, q⟩ := h
  ((try conv => whnf) <;> repeat ((first | (refine Ite.mt ?_ ?_; focus (first | rfl | (simp; done) | (simp; omega))) | (refine Ite.mf ?_ ?_; focus (first | rfl | (simp; done) | (simp; omega))) | (refine And.intro ?_ ?_; focus (first | rfl | decide | (simp; done) | (simp; omega) | omega))) <;> (try conv => whnf)))
  refine ⟨r, _, n, rfl, dk, by omega, by omega, by omega, fun u S1 l0 l1 d1 b1 => ?_⟩
  (conv => whnf)
  refine ⟨by constructor <;> omega, ?_⟩
  (conv => whnf)
  refine ⟨⟨rfl, by rw [rngD_len]; omega⟩, ?_⟩
  refine lcW_rng (fun i acc e s => ∃ l : List Int, acc = l.map D.int ∧ l.length = i ∧ (∀ x ∈ l, Lev t x) ∧ e = [some (.val (.ref r)), some (.val (.int t)), some (.val (.int m)), none] ∧ Deck (n + 1 + (i : Int)) r s ∧ But1 r S s) ?_ ?_ ⟨[], rfl, rfl, fun _ h => by simp at h, rfl, d1.mono (by omega), b1⟩
  · rintro acc e s ⟨l, rfl, h1, h2, rfl, h3, h4⟩
    ((try conv => whnf) <;> repeat ((first | (refine Ite.mt ?_ ?_; focus (first | rfl | (simp; done) | (simp; omega))) | (refine Ite.mf ?_ ?_; focus (first | rfl | (simp; done) | (simp; omega))) | (refine And.intro ?_ ?_; focus (first | rfl | decide | (simp; done) | (simp; omega) | omega))) <;> (try conv => whnf)))
    exact q l s ⟨h2, by omega⟩ (h3.mono (by omega)) h4
  · rintro i acc e s K hi ⟨l, rfl, h1, h2, rfl, h3, h4⟩ hK
    ((try conv => whnf) <;> repeat ((first | (refine Ite.mt ?_ ?_; focus (first | rfl | (simp; done) | (simp; omega))) | (refine Ite.mf ?_ ?_; focus (first | rfl | (simp; done) | (simp; omega))) | (refine And.intro ?_ ?_; focus (first | rfl | decide | (simp; done) | (simp; omega) | omega))) <;> (try conv => whnf)))
    refine ⟨r, _, _, rfl, h3, by omega, by omega, by omega, fun x S2 j0 j1 d2 b2 => ?_⟩
    ((try conv => whnf) <;> repeat ((first | (refine Ite.mt ?_ ?_; focus (first | rfl | (simp; done) | (simp; omega))) | (refine Ite.mf ?_ ?_; focus (first | rfl | (simp; done) | (simp; omega))) | (refine And.intro ?_ ?_; focus (first | rfl | decide | (simp; done) | (simp; omega) | omega))) <;> (try conv => whnf)))
    refine hK _ _ _ ⟨l ++ [x], by simp, by simp [h1], fun y hy => ?_, rfl, d2.mono (by push_cast; omega), h4.trans b2⟩
    rcases List.mem_append.mp hy with h | h
    · exact h2 y h
    · rw [List.mem_singleton.mp h]; exact ⟨j0, by omega⟩
theorem dat_ints (l : List Int) (h : l.length ≤ 1000000) : datd (intsT l) 2 = true := by
  simp only [intsT, datd, List.length_map, Bool.and_eq_true, decide_eq_true_eq]
  refine ⟨h, datds_all fun d hd => ?_⟩
  obtain ⟨x, _, rfl⟩ := List.mem_map.mp hd
  rfl
theorem dat_mems (l : List Mem) (h : l.length ≤ 1000000) : datd (memsT l) 2 = true := by
  simp only [memsT, datd, List.length_map, Bool.and_eq_true, decide_eq_true_eq]
  refine ⟨h, datds_all fun d hd => ?_⟩
  obtain ⟨x, _, rfl⟩ := List.mem_map.mp hd
  cases x <;> rfl
mutual
theorem datd_mono : ∀ (d : D) (n m : Nat), datd d n = true → n ≤ m → datd d m = true
  | .non, _, _, _, _ => rfl
  | .bl _, _, _, _, _ => rfl
  | .int _, _, _, _, _ => rfl
  | .str _, _, _, h, _ => by simpa [datd] using h
  | .tup xs, n, m, h, k => by
    cases n with
    | zero => simp [datd] at h
    | succ n =>
      cases m with
      | zero => omega
      | succ m =>
        simp only [datd, Bool.and_eq_true] at h ⊢
        exact ⟨h.1, datds_mono xs n m h.2 (by omega)⟩
  | .lst xs, n, m, h, k => by
    cases n with
    | zero => simp [datd] at h
    | succ n =>
      cases m with
      | zero => omega
      | succ m =>
        simp only [datd, Bool.and_eq_true] at h ⊢
        exact ⟨h.1, datds_mono xs n m h.2 (by omega)⟩
  | .dct _ _, _, _, h, _ => by simp [datd] at h
  | .ref _, _, _, h, _ => by simp [datd] at h
  | .fn _, _, _, h, _ => by simp [datd] at h
  | .kst _, _, _, h, _ => by simp [datd] at h
theorem datds_mono : ∀ (ds : List D) (n m : Nat), datds ds n = true → n ≤ m → datds ds m = true
  | [], _, _, _, _ => rfl
  | x :: xs, n, m, h, k => by
    simp only [datds, Bool.and_eq_true] at h ⊢
    exact ⟨datd_mono x n m h.1 k, datds_mono xs n m h.2 k⟩
end
theorem dat_ints_n (l : List Int) {n : Nat} (h : l.length ≤ 1000000) (hn : 2 ≤ n := by decide) : datd (intsT l) n = true := datd_mono _ _ _ (dat_ints l h) hn
theorem dat_mems_n (l : List Mem) {n : Nat} (h : l.length ≤ 1000000) (hn : 2 ≤ n := by decide) : datd (memsT l) n = true := datd_mono _ _ _ (dat_mems l h) hn
theorem eq_ints {a b : List Int} (h : a = b) : D.eqv (intsT a) (intsT b) = true := by rw [eqv_dec (ints_ok _) (ints_ok _) ints_iff]; exact decide_eq_true h
theorem ne_ints {a b : List Int} (h : a = b) : (!D.eqv (intsT a) (intsT b)) = false := by rw [eq_ints h]; rfl
theorem ne_mi {a : List Mem} {b : List Int} (h : a = b.map Mem.one) : (!D.eqv (memsT a) (intsT b)) = false := by
  have e : intsT b = memsT (b.map Mem.one) := by simp [intsT, memsT, Mem.d, Function.comp_def]
  rw [e, eqv_dec (mems_ok _) (mems_ok _) mems_iff, decide_eq_true h]; rfl
theorem nbeq {a b : Bool} (h : b = a) : (!(a == b)) = false := by rw [h]; cases a <;> rfl
theorem flat_zeros : ∀ n : Nat, (List.replicate n [D.int 0]).flatten = (List.replicate n (0 : Int)).map D.int
  | 0 => rfl
  | n + 1 => by rw [List.replicate_succ, List.flatten_cons, flat_zeros n, List.replicate_succ]; rfl
theorem script_at (ns : List Int) (m : Int) (k : Nat) (hk : k < m.toNat) : ∃ x : Int, atD (ns.map D.int ++ (List.replicate m.toNat [D.int 0]).flatten) (0 + (k : Int)) = some (.int x) := by
  have e := flat_zeros m.toNat
  rw [e, ← List.map_append, Int.zero_add]
  obtain ⟨x, hx⟩ : ∃ x, (ns ++ List.replicate m.toNat (0 : Int))[k]? = some x := ⟨_, List.getElem?_eq_getElem (by simp; omega)⟩
  exact ⟨x, atD_nat (by rw [List.getElem?_map, hx]; rfl)⟩
def sp_law : FSpec := fun ds S R _ => ∃ ns : List Int, ds = [.kst (ns.map D.int)] ∧ ns.length ≤ 63 ∧ ∀ S', R (.val (.bl true)) S'
end VC

set_option Elab.async false
set_option linter.all false
set_option maxRecDepth 100000
set_option maxHeartbeats 4000000
/-! M6: the specs grow with what is wanted; the law's call. -/
namespace VC
open PySem PySem.Spec PyProof.Rows L2
theorem rep_ints {mg : Str → Option Value} {w : WK} {g : Gh} {H : Hp} : ∀ ns : List Int, RepAll mg w g H (ns.map D.int) (ns.map V.int)
  | [] => .nil
  | n :: ns => .cons (.int n) (rep_ints ns)
/-- the law's call, with exceptions by the world -/
theorem walk_k {l : PySem.W.OpenLaw} {k : Nat} {q : Program} {loose : List Str} {XP : (Str → Option Value) → Heap → Prop} {YP : World → Heap → Prop} {d : DefRec} {x : Str}
    (hn : l.most = some 63) (hdf : d.params.defaults = []) (room : Room k callerA)
    (F : ∀ (w : World) (mg : Str → Option Value) (fa : Addr) (h : Heap), YP w h → h.Ns mainGlobals mg → mg d.name = some (.ref fa) →
      ∃ (K : PySem.W.Frag) (fd : FuncData) (sp : Sp), K.In h ∧ (∀ (s : Shared) (u : Value), BindsTo s fd ⟨[u], []⟩ [(x, u)]) ∧
        (∀ (H : Hp) (a : Addr) (ns : List Int), ns.length ≤ 63 → Only H → SqL K H a (ns.map V.int) → sp [.ref a] H (fun v _ => v = .bl true) fun _ _ _ => False) ∧
        ∀ base : Heap, K.In base → base.Ns mainGlobals mg → FnOk l.prog w K mg base (L2.CX l.prog w) k fa fd [x] sp) :
    PySem.W.WalkO q loose XP YP l.row.toRowW d [] (fun f vs => PySem.call f vs) := by
  refine Att.attach_call hn hdf ?_
  intro w t₀ t₁ mg mb fa o pm cd doc b us ms Gd Yp g1 g2 g3 g4 g5 g6 g7 g8
  obtain ⟨K, fd, sp, inK, bind, use, ok⟩ := F w mg fa _ Yp Gd.T.g g4
  refine law_call inK Gd.T.g Gd.T.b Gd.T.builtins Gd.T.nolimit g8 g5 g6 (Nat.le_trans g7 (by decide)) room ok bind ?_ ?_
  · exact fun H hO hS => use H b ms g7 hO hS
  · rintro H e s' ⟨_, _, _, _, _, _, _, _, _, _, _, _, z⟩
    exact z
theorem mo_is_from : MoF sp_is_from := by (intro ds S R R' E i; repeat (first | exact i _ _ | (refine Exists.imp fun _ => ?_) | (refine And.imp_right ?_) | (intro f x; refine (show _ → _ from ?_) (f x))))
theorem mo_is_stage_of : MoF sp_is_stage_of := by (intro ds S R R' E i; repeat (first | exact i _ _ | (refine Exists.imp fun _ => ?_) | (refine And.imp_right ?_) | (intro f x; refine (show _ → _ from ?_) (f x))))
theorem mo_keeping : MoF sp_keeping := by (intro ds S R R' E i; repeat (first | exact i _ _ | (refine Exists.imp fun _ => ?_) | (refine And.imp_right ?_) | (intro f x; refine (show _ → _ from ?_) (f x))))
theorem mo_is_chain_of : MoF sp_is_chain_of := by (intro ds S R R' E i; repeat (first | exact i _ _ | (refine Exists.imp fun _ => ?_) | (refine And.imp_right ?_) | (intro f x; refine (show _ → _ from ?_) (f x))))
theorem mo_need_chain : MoF sp_need_chain := by (intro ds S R R' E i; repeat (first | exact i _ _ | (refine Exists.imp fun _ => ?_) | (refine And.imp_right ?_) | (intro f x; refine (show _ → _ from ?_) (f x))))
theorem mo_are_levels : MoF sp_are_levels := by (intro ds S R R' E i; repeat (first | exact i _ _ | (refine Exists.imp fun _ => ?_) | (refine And.imp_right ?_) | (intro f x; refine (show _ → _ from ?_) (f x))))
theorem mo_are_levels_2 : MoF sp_are_levels_2 := fun _ _ _ _ _ i => mo_are_levels _ _ _ _ _ i
theorem mo_need_signal : MoF sp_need_signal := by (intro ds S R R' E i; repeat (first | exact i _ _ | (refine Exists.imp fun _ => ?_) | (refine And.imp_right ?_) | (intro f x; refine (show _ → _ from ?_) (f x))))
theorem mo_between : MoF sp_between := by (intro ds S R R' E i; repeat (first | exact i _ _ | (refine Exists.imp fun _ => ?_) | (refine And.imp_right ?_) | (intro f x; refine (show _ → _ from ?_) (f x))))
theorem mo_first_of : MoF sp_first_of := by (intro ds S R R' E i; repeat (first | exact i _ _ | (refine Exists.imp fun _ => ?_) | (refine And.imp_right ?_) | (intro f x; refine (show _ → _ from ?_) (f x))))
theorem mo_first_state : MoF sp_first_state := by (intro ds S R R' E i; repeat (first | exact i _ _ | (refine Exists.imp fun _ => ?_) | (refine And.imp_right ?_) | (intro f x; refine (show _ → _ from ?_) (f x))))
theorem mo_moved : MoF sp_moved := by (intro ds S R R' E i; repeat (first | exact i _ _ | (refine Exists.imp fun _ => ?_) | (refine And.imp_right ?_) | (intro f x; refine (show _ → _ from ?_) (f x))))
theorem mo_step : MoF sp_step := by (intro ds S R R' E i; repeat (first | exact i _ _ | (refine Exists.imp fun _ => ?_) | (refine And.imp_right ?_) | (intro f x; refine (show _ → _ from ?_) (f x))))
theorem mo_run : MoF sp_run := by (intro ds S R R' E i; repeat (first | exact i _ _ | (refine Exists.imp fun _ => ?_) | (refine And.imp_right ?_) | (intro f x; refine (show _ → _ from ?_) (f x))))
theorem mo_output : MoF sp_output := by (intro ds S R R' E i; repeat (first | exact i _ _ | (refine Exists.imp fun _ => ?_) | (refine And.imp_right ?_) | (intro f x; refine (show _ → _ from ?_) (f x))))
theorem mo_state : MoF sp_state := by (intro ds S R R' E i; repeat (first | exact i _ _ | (refine Exists.imp fun _ => ?_) | (refine And.imp_right ?_) | (intro f x; refine (show _ → _ from ?_) (f x))))
theorem mo_passes : MoF sp_passes := by (intro ds S R R' E i; repeat (first | exact i _ _ | (refine Exists.imp fun _ => ?_) | (refine And.imp_right ?_) | (intro f x; refine (show _ → _ from ?_) (f x))))
theorem mo__law_deck : MoF sp__law_deck := by (intro ds S R R' E i; repeat (first | exact i _ _ | (refine Exists.imp fun _ => ?_) | (refine And.imp_right ?_) | (intro f x; refine (show _ → _ from ?_) (f x))))
theorem mo__law_pick : MoF sp__law_pick := by (intro ds S R R' E i; repeat (first | exact i _ _ | (refine Exists.imp fun _ => ?_) | (refine And.imp_right ?_) | (intro f x; refine (show _ → _ from ?_) (f x))))
theorem mo__law_bool : MoF sp__law_bool := by (intro ds S R R' E i; repeat (first | exact i _ _ | (refine Exists.imp fun _ => ?_) | (refine And.imp_right ?_) | (intro f x; refine (show _ → _ from ?_) (f x))))
theorem mo__law_sort : MoF sp__law_sort := by (intro ds S R R' E i; repeat (first | exact i _ _ | (refine Exists.imp fun _ => ?_) | (refine And.imp_right ?_) | (intro f x; refine (show _ → _ from ?_) (f x))))
theorem mo__law_same (n : Nat) : MoF (sp__law_same n) := by (intro ds S R R' E i; repeat (first | exact i _ _ | (refine Exists.imp fun _ => ?_) | (refine And.imp_right ?_) | (intro f x; refine (show _ → _ from ?_) (f x))))
theorem mo__law_first : MoF sp__law_first := by (intro ds S R R' E i; repeat (first | exact i _ _ | (refine Exists.imp fun _ => ?_) | (refine And.imp_right ?_) | (intro f x; refine (show _ → _ from ?_) (f x))))
theorem mo__law_tick : MoF sp__law_tick := by (intro ds S R R' E i; repeat (first | exact i _ _ | (refine Exists.imp fun _ => ?_) | (refine And.imp_right ?_) | (intro f x; refine (show _ → _ from ?_) (f x))))
theorem mo__law_ran : MoF sp__law_ran := by (intro ds S R R' E i; repeat (first | exact i _ _ | (refine Exists.imp fun _ => ?_) | (refine And.imp_right ?_) | (intro f x; refine (show _ → _ from ?_) (f x))))
theorem mo__law_stage : MoF sp__law_stage := by (intro ds S R R' E i; repeat (first | exact i _ _ | (refine Exists.imp fun _ => ?_) | (refine And.imp_right ?_) | (intro f x; refine (show _ → _ from ?_) (f x))))
theorem mo__law_chain : MoF sp__law_chain := by (intro ds S R R' E i; repeat (first | exact i _ _ | (refine Exists.imp fun _ => ?_) | (refine And.imp_right ?_) | (intro f x; refine (show _ → _ from ?_) (f x))))
theorem mo__law_levels : MoF sp__law_levels := by (intro ds S R R' E i; repeat (first | exact i _ _ | (refine Exists.imp fun _ => ?_) | (refine And.imp_right ?_) | (intro f x; refine (show _ → _ from ?_) (f x))))
end VC

set_option Elab.async false
set_option linter.all false
set_option maxRecDepth 100000
set_option maxHeartbeats 4000000
/-! N1: plain laws: states that are reached, how many; sorted lists. -/
namespace VC
open PySem PySem.Spec PyProof.Rows L2
/-! ### how many -/
theorem nodup_le {α : Type} [DecidableEq α] : ∀ {l m : List α}, l.Nodup → (∀ x ∈ l, x ∈ m) → l.length ≤ m.length
  | [], _, _, _ => Nat.zero_le _
  | x :: l, m, n, h => by
    rw [List.nodup_cons] at n
    have hx := h x (List.mem_cons_self ..)
    have : l.length ≤ (m.erase x).length := nodup_le n.2 fun y hy => (List.mem_erase_of_ne (fun e => n.1 (by rw [← e]; exact hy))).mpr (h y (List.mem_cons_of_mem _ hy))
    rw [List.length_erase_of_mem hx] at this
    have := List.length_pos_of_mem hx
    rw [List.length_cons]; omega
def memsOf (t : Int) : Stg → List Mem
  | .slew _ _ => (List.range (t.toNat + 1)).map fun (i : Nat) => .one i
  | .clip _ _ => [.one 0]
  | .gate _ _ => [.one 0, .one 1]
  | .hold w => (List.range (t.toNat + 1)).flatMap fun (i : Nat) => (List.range (w.toNat + 1)).map fun (j : Nat) => .two i j
def allMs (t : Int) : List Stg → List (List Mem)
  | [] => [[]]
  | s :: ss => (memsOf t s).flatMap fun m => (allMs t ss).map (m :: ·)
theorem fit_mem {t : Int} {s : Stg} {m : Mem} (h : s.Fit t m) : m ∈ memsOf t s := by
  cases s with
  | slew u d =>
    cases m with
    | two _ _ => exact h.elim
    | one i =>
      obtain ⟨h1, h2⟩ := h
      exact List.mem_map.mpr ⟨i.toNat, List.mem_range.mpr (by omega), by rw [Int.toNat_of_nonneg h1]⟩
  | clip l u =>
    cases m with
    | two _ _ => exact h.elim
    | one i => have h : i = 0 := h; subst h; simp [memsOf]
  | gate l u =>
    cases m with
    | two _ _ => exact h.elim
    | one i => have h : i = 0 ∨ i = 1 := h; rcases h with rfl | rfl <;> simp [memsOf]
  | hold w =>
    cases m with
    | one _ => exact h.elim
    | two i j =>
      obtain ⟨h1, h2, h3, h4⟩ := h
      refine List.mem_flatMap.mpr ⟨i.toNat, List.mem_range.mpr (by omega), List.mem_map.mpr ⟨j.toNat, List.mem_range.mpr (by omega), ?_⟩⟩
      rw [Int.toNat_of_nonneg h1, Int.toNat_of_nonneg h3]
theorem fits_mem {t : Int} : ∀ {ss : List Stg} {ms : List Mem}, Fits t ss ms → ms ∈ allMs t ss
  | _, _, .nil => by simp [allMs]
  | _, _, .cons h1 h2 => List.mem_flatMap.mpr ⟨_, fit_mem h1, List.mem_map.mpr ⟨_, fits_mem h2, rfl⟩⟩
theorem memsOf_len {t : Int} {s : Stg} (t5 : t ≤ 5) (h : s.Ok t) : (memsOf t s).length ≤ 18 := by
  have e : t.toNat ≤ 5 := by omega
  cases s with
  | slew u d => simp [memsOf]; omega
  | clip l u => simp [memsOf]
  | gate l u => simp [memsOf]
  | hold w =>
    obtain ⟨h1, h2⟩ := h
    have e2 : w.toNat ≤ 2 := by omega
    simp only [memsOf, List.length_flatMap, List.length_map, List.length_range, List.map_const', List.sum_replicate_nat]
    exact Nat.mul_le_mul (show t.toNat + 1 ≤ 6 by omega) (show w.toNat + 1 ≤ 3 by omega)
theorem allMs_len {t : Int} (t5 : t ≤ 5) : ∀ {ss : List Stg}, (∀ s ∈ ss, s.Ok t) → (allMs t ss).length ≤ 18 ^ ss.length
  | [], _ => by simp [allMs]
  | s :: ss, h => by
    have h1 := memsOf_len t5 (h s (List.mem_cons_self ..))
    have h2 := allMs_len t5 (ss := ss) fun x hx => h x (List.mem_cons_of_mem _ hx)
    simp only [allMs, List.length_flatMap, List.length_map, List.map_const', List.sum_replicate_nat, List.length_cons, Nat.pow_succ]
    rw [Nat.mul_comm]
    exact Nat.mul_le_mul h2 h1
theorem chn_states {c : Chn} (ok : c.Ok) {o : List (List Mem)} (n : o.Nodup) (h : ∀ m ∈ o, Fits c.top c.stages m) : o.length ≤ 5832 := by
  have h1 := nodup_le n fun m hm => fits_mem (h m hm)
  have h2 := allMs_len ok.t5 ok.ok
  have h3 : 18 ^ c.stages.length ≤ 18 ^ 3 := Nat.pow_le_pow_right (by decide) ok.len
  omega
/-! ### reached -/
/-- what a level does in a state -/
abbrev Chn.go (c : Chn) (m : List Mem) (x : Int) : Int × List Mem := step c.stages m x
inductive Rch (c : Chn) (F : List (List Mem)) : List Mem → Prop
  | base {m} : m ∈ F → Rch c F m
  | step {m} {x : Int} : Rch c F m → Lev c.top x → Rch c F (c.go m x).2
theorem Rch.fits {c : Chn} (ok : c.Ok) {F : List (List Mem)} (hF : ∀ m ∈ F, Fits c.top c.stages m) {m : List Mem} (h : Rch c F m) : Fits c.top c.stages m := by
  induction h with
  | base h => exact hF _ h
  | step _ hx ih => exact (step_ok ok.ok ih hx).2
/-- all that is reached -/
structure Tab (c : Chn) (F o : List (List Mem)) : Prop where
  nd : o.Nodup
  fs : ∀ m ∈ F, m ∈ o
  hd : ∀ f r, F = f :: r → o[0]? = some f
  cl : ∀ m ∈ o, ∀ x, Lev c.top x → (c.go m x).2 ∈ o
  rc : ∀ m ∈ o, Rch c F m
theorem Tab.iff {c : Chn} {F o : List (List Mem)} (h : Tab c F o) {m : List Mem} : m ∈ o ↔ Rch c F m := by
  refine ⟨h.rc m, fun r => ?_⟩
  induction r with
  | base h' => exact h.fs _ h'
  | step _ hx ih => exact h.cl _ ih _ hx
theorem perm_of {α : Type} [DecidableEq α] {l m : List α} (n1 : l.Nodup) (n2 : m.Nodup) (h : ∀ x, x ∈ l ↔ x ∈ m) : l.Perm m := by
  rw [List.perm_iff_count]
  intro x
  rw [n1.count, n2.count]
  by_cases hx : x ∈ l
  · rw [if_pos hx, if_pos ((h x).mp hx)]
  · rw [if_neg hx, if_neg fun z => hx ((h x).mpr z)]
/-! ### sorted lists of states -/
theorem pds_map (ds : List D) : D.pds ds = ds.map D.pd := by
  induction ds with
  | nil => rfl
  | cons d ds ih => rw [D.pds, ih]; rfl
open PySem.W in
theorem alike_mem {t : Int} {s : Stg} {a b : Mem} (h1 : s.Fit t a) (h2 : s.Fit t b) : alike a.d.pd b.d.pd = true := by
  cases s <;> cases a <;> cases b <;> first | exact h1.elim | exact h2.elim | simp [Mem.d, D.pd, D.pds, alike, alikeAll]
open PySem.W in
theorem alike_mems {t : Int} : ∀ {ss : List Stg} {a b : List Mem}, Fits t ss a → Fits t ss b → alikeAll (D.pds (a.map Mem.d)) (D.pds (b.map Mem.d)) = true
  | _, _, _, .nil, .nil => by simp [D.pds, alikeAll]
  | _, _, _, .cons h1 h2, .cons k1 k2 => by
    simp only [List.map_cons, D.pds, alikeAll, alike_mem h1 k1, alike_mems h2 k2, Bool.and_self]
open PySem.W in
theorem alike_st {t : Int} {ss : List Stg} {a b : List Mem} (h1 : Fits t ss a) (h2 : Fits t ss b) : alike (memsT a).pd (memsT b).pd = true := by
  simp only [memsT, D.pd, alike]
  exact alike_mems h1 h2
theorem mem_dep (m : Mem) : m.d.pd.depth ≤ 1 := by cases m <;> simp [Mem.d, D.pd, D.pds, PyData.depth, PyData.depthAll]
theorem depAll {n : Nat} : ∀ ds : List D, (∀ d ∈ ds, d.pd.depth ≤ n) → PyData.depthAll (D.pds ds) ≤ n
  | [], _ => by simp [D.pds, PyData.depthAll]
  | d :: ds, h => by
    simp only [D.pds, PyData.depthAll]
    exact Nat.max_le.mpr ⟨h d (List.mem_cons_self ..), depAll ds fun x hx => h x (List.mem_cons_of_mem _ hx)⟩
theorem mems_dep (l : List Mem) : (memsT l).pd.depth ≤ 2 := by
  simp only [memsT, D.pd, PyData.depth]
  exact Nat.succ_le_succ (depAll _ fun d hd => by obtain ⟨m, _, rfl⟩ := List.mem_map.mp hd; exact mem_dep m)
theorem allData_of : ∀ {ds : List D}, (∀ d ∈ ds, d.isData = true) → D.allData ds = true
  | [], _ => rfl
  | d :: ds, h => by simp only [D.allData, h d (List.mem_cons_self ..), allData_of fun x hx => h x (List.mem_cons_of_mem _ hx), Bool.and_self]
theorem isData_mems (l : List Mem) : (memsT l).isData = true := (okd_lay _ _ (mems_ok l)).1
open PySem.W in
/-- the states of a chain may be sorted -/
theorem srtOk_st {t : Int} {ss : List Stg} {o : List (List Mem)} (h : ∀ m ∈ o, Fits t ss m) (n : o.Nodup) (hl : o.length ≤ 1000000) : SrtOk (o.map memsT) := by
  refine ⟨allData_of fun d hd => ?_, ?_, ?_, fun d hd => ?_, by rw [List.length_map]; exact hl⟩
  · obtain ⟨m, _, rfl⟩ := List.mem_map.mp hd; exact isData_mems m
  · intro x hx y hy
    rw [List.map_map] at hx hy
    obtain ⟨a, ha, rfl⟩ := List.mem_map.mp hx
    obtain ⟨b, hb, rfl⟩ := List.mem_map.mp hy
    exact alike_st (h a ha) (h b hb)
  · cases ss with
    | cons s ss =>
      refine .inl (.inl fun d hd => ?_)
      rw [List.map_map] at hd
      obtain ⟨a, ha, rfl⟩ := List.mem_map.mp hd
      cases h a ha with
      | @cons _ m _ ms h1 h2 => exact ⟨_, _, rfl⟩
    | nil =>
      refine .inr ⟨?_, fun d hd => ?_⟩
      · rw [List.length_map, List.length_map]
        have : o.length ≤ [([] : List Mem)].length := nodup_le n fun m hm => by cases h m hm; simp
        exact this
      · rw [List.map_map] at hd
        obtain ⟨a, ha, rfl⟩ := List.mem_map.mp hd
        exact fun q => nomatch q
  · obtain ⟨m, _, rfl⟩ := List.mem_map.mp hd
    have := mems_dep m
    omega
/-! the sorted list does not ask in which order it got the items -/
open PySem.W in
theorem toks_inj {x y : PyData} (h : alike x y = true) (e : keyToks x = keyToks y) : PyData.eqv x y = true := by
  cases q : PyData.eqv x y with
  | true => rfl
  | false =>
    have k := (toks_eqv x y h).2 q
    have k1 := k [] [.inl 0]
    have k2 := k [.inl 0] []
    rw [e] at k1 k2
    rw [lex_pre] at k1 k2
    have : PyProof.Rows.lexLt itemOrd [] [Sum.inl 0] = PyProof.Rows.lexLt itemOrd [Sum.inl 0] [] := k1.trans k2.symm
    revert this
    decide
open PySem.W in
theorem srtD_perm {n : Nat} {ds es : List D} (al : AllAlike (ds.map D.pd)) (ho : ∀ d ∈ ds, okd d n = true) (p : ds.Perm es) : srtD ds = srtD es := by
  unfold srtD
  have tl := sortLe_total (listOrd itemOrd) false fun d : D => keyToks d.pd
  have p2 : (ds.mergeSort srtLe).Perm (es.mergeSort srtLe) := (List.mergeSort_perm _ _).trans (p.trans (List.mergeSort_perm _ _).symm)
  refine List.Perm.eq_of_pairwise (le := fun a b => srtLe a b = true) (fun a b ha hb h1 h2 => ?_) (sort_pairwise tl ds) (sort_pairwise tl es) p2
  have ha : a ∈ ds := List.mem_mergeSort.mp ha
  have hb : b ∈ ds := p.mem_iff.mpr (List.mem_mergeSort.mp hb)
  have h1 : (!dataLt b.pd a.pd) = true := h1
  have h2 : (!dataLt a.pd b.pd) = true := h2
  have e : keyToks a.pd = keyToks b.pd := (listOrd itemOrd).total _ _ (show dataLt a.pd b.pd = false by simpa using h2) (show dataLt b.pd a.pd = false by simpa using h1)
  have q := toks_inj (al _ (List.mem_map.mpr ⟨a, ha, rfl⟩) _ (List.mem_map.mpr ⟨b, hb, rfl⟩)) e
  rw [← eqv_pd a b (okd_lay _ _ (ho a ha)).1 (okd_lay _ _ (ho b hb)).1] at q
  exact (eqv_iff a b n n (ho a ha) (ho b hb)).mp q
theorem srtD_mem {ds : List D} {d : D} : d ∈ srtD ds ↔ d ∈ ds := by unfold srtD; exact List.mem_mergeSort
theorem srtD_len (ds : List D) : (srtD ds).length = ds.length := by unfold srtD; exact List.length_mergeSort _
theorem srt_states {c : Chn} (ok : c.Ok) {F o p : List (List Mem)} (hF : ∀ m ∈ F, Fits c.top c.stages m) (h1 : Tab c F o) (h2 : p.Nodup) (h3 : ∀ m, m ∈ p ↔ Rch c F m) : srtD (o.map memsT) = srtD (p.map memsT) :=
  srtD_perm (n := 2) (srtOk_st (fun m hm => (h1.rc m hm).fits ok hF) h1.nd (Nat.le_trans (chn_states ok h1.nd fun m hm => (h1.rc m hm).fits ok hF) (by decide))).al (fun d hd => by
    obtain ⟨m, _, rfl⟩ := List.mem_map.mp hd; exact mems_ok m) ((perm_of h1.nd h2 fun m => h1.iff.trans (h3 m).symm).map _)
end VC

set_option Elab.async false
set_option linter.all false
set_option maxRecDepth 100000
set_option maxHeartbeats 4000000
/-! N2: the program's tables by their W's. -/
namespace VC
open PySem PySem.Spec PyProof.Rows L2
def natsD (n : Nat) : List D := (List.range n).map fun (i : Nat) => .int (i : Int)
theorem natsD_len (n : Nat) : (natsD n).length = n := by simp [natsD]
theorem natsD_succ (n : Nat) : natsD (n + 1) = natsD n ++ [.int (n : Int)] := by simp [natsD, List.range_succ]
theorem natsD_get {n i : Nat} (h : i < n) : (natsD n)[i]? = some (.int (i : Int)) := by simp [natsD, h]
theorem zipD_app : ∀ {ks ds ks' ds' : List D}, ks.length = ds.length → zipD (ks ++ ks') (ds ++ ds') = zipD ks ds ++ zipD ks' ds'
  | [], [], _, _, _ => by simp [zipD]
  | k :: ks, d :: ds, ks', ds', h => by
    simp only [List.cons_append, zipD]
    rw [zipD_app (ks := ks) (ds := ds) (by simpa using h)]
  | [], _ :: _, _, _, h => by simp at h
  | _ :: _, [], _, _, h => by simp at h
def sp_with_place : FSpec := fun ds S R _ => ∃ (ks : List D) (h : D), ds = [.dct ks (natsD ks.length), h] ∧ KsOk (ks ++ [h]) ∧ R (.own (.dct (ks ++ [h]) (natsD (ks.length + 1)))) S
theorem vc_with_place (ds S R) (h : sp_with_place ds S R (fun _ _ => False)) : wf_with_place (ENDS R) (env0 2 ds) S := by
  obtain ⟨ks, h, rfl, ok, q⟩ := h
  have hl := ok.len
  rw [List.length_append, List.length_singleton] at hl
  ((try conv => whnf) <;> repeat ((first | (refine Ite.mt ?_ ?_; focus (first | rfl | (simp; done) | (simp; omega))) | (refine Ite.mf ?_ ?_; focus (first | rfl | (simp; done) | (simp; omega))) | (refine And.intro ?_ ?_; focus (first | rfl | decide | (simp; done) | (simp; omega) | omega))) <;> (try conv => whnf)))
  refine ⟨th40 (by rw [zipD_len, natsD_len]; simp; omega), ?_⟩
  ((try conv => whnf) <;> repeat ((first | (refine Ite.mt ?_ ?_; focus (first | rfl | (simp; done) | (simp; omega))) | (refine Ite.mf ?_ ?_; focus (first | rfl | (simp; done) | (simp; omega))) | (refine And.intro ?_ ?_; focus (first | rfl | decide | (simp; done) | (simp; omega) | omega))) <;> (try conv => whnf)))
  refine ⟨ks ++ [h], natsD (ks.length + 1), ?_, by rw [natsD_len]; simp, ok, q⟩
  rw [natsD_succ, zipD_app (natsD_len _).symm]
  rfl
/-! ### table_from -/
@[reducible] def plD (o : List (List Mem)) : D := .dct (o.map memsT) (natsD o.length)
@[reducible] def ordD (o : List (List Mem)) : D := .tup (o.map memsT)
def cellD (c : Chn) (o : List (List Mem)) (m : List Mem) (i : Nat) : D := .tup [.int (c.go m i).1, .int (o.idxOf (c.go m i).2 : Nat)]
def rowK (c : Chn) (o : List (List Mem)) (m : List Mem) (k : Nat) : D := .tup ((List.range k).map (cellD c o m))
def Chn.lev (c : Chn) : Nat := (c.top + 1).toNat
def rowD (c : Chn) (o : List (List Mem)) (m : List Mem) : D := rowK c o m c.lev
def rowsD (c : Chn) (o : List (List Mem)) : D := .tup (o.map (rowD c o))
theorem mem_kok (m : Mem) : kok m.d 7 = true := by cases m <;> simp [Mem.d, kok, koks]
theorem koks_all {n : Nat} : ∀ {ds : List D}, (∀ d ∈ ds, kok d n = true) → koks ds n = true
  | [], _ => rfl
  | d :: ds, h => by simp only [koks, h d (List.mem_cons_self ..), koks_all fun x hx => h x (List.mem_cons_of_mem _ hx), Bool.and_self]
theorem mems_kok (m : List Mem) : kok (memsT m) 8 = true := by
  simp only [memsT, kok]
  exact koks_all fun d hd => by obtain ⟨x, _, rfl⟩ := List.mem_map.mp hd; exact mem_kok x
theorem mems_in {o : List (List Mem)} {m : List Mem} : memsT m ∈ o.map memsT ↔ m ∈ o := by
  refine ⟨fun h => ?_, fun h => List.mem_map.mpr ⟨m, h, rfl⟩⟩
  obtain ⟨x, hx, e⟩ := List.mem_map.mp h
  rw [← mems_inj e]; exact hx
theorem mems_nd {o : List (List Mem)} (n : o.Nodup) : (o.map memsT).Nodup := List.pairwise_map.mpr (n.imp fun h e => h (mems_inj e))
theorem mems_isT (o : List (List Mem)) : ∀ q ∈ o.map memsT, q.isT = true := fun q hq => by obtain ⟨x, _, rfl⟩ := List.mem_map.mp hq; rfl
theorem mems_kinds (o : List (List Mem)) (m : List Mem) : Kinds (o.map memsT) (memsT m) := .inl ⟨rfl, mems_isT o⟩
theorem ksOk_mems {o : List (List Mem)} (n : o.Nodup) (hl : o.length ≤ 1000000) : KsOk (o.map memsT) := ⟨fun k hk => by obtain ⟨x, _, rfl⟩ := List.mem_map.mp hk; exact mems_kok x, mems_nd n, .inl (mems_isT o), by rw [List.length_map]; exact hl⟩
theorem pl_len (o : List (List Mem)) : (natsD o.length).length = (o.map memsT).length := by rw [natsD_len, List.length_map]
/-- the places: held or the body's own -/
def T2 (o : List (List Mem)) (t : T) : Prop := t = .val (plD o) ∨ t = .own (.dct (o.map memsT) (natsD o.length))
structure TInv (c : Chn) (F o : List (List Mem)) : Prop where
  nd : o.Nodup
  rc : ∀ m ∈ o, Rch c F m
theorem nodup_snoc {α : Type} {o : List α} {m : α} (n : o.Nodup) (h : m ∉ o) : (o ++ [m]).Nodup := by
  rw [List.nodup_append]
  exact ⟨n, by simp, fun a ha b hb e => h (by rw [List.mem_singleton.mp hb] at e; rw [← e]; exact ha)⟩
theorem TInv.app {c : Chn} {F o : List (List Mem)} {m : List Mem} (h : TInv c F o) (hm : Rch c F m) (hn : m ∉ o) : TInv c F (o ++ [m]) := by
  refine ⟨nodup_snoc h.nd hn, fun x hx => ?_⟩
  rcases List.mem_append.mp hx with hx | hx
  · exact h.rc x hx
  · rw [List.mem_singleton.mp hx]; exact hm
theorem TInv.len {c : Chn} (ok : c.Ok) {F o : List (List Mem)} (hF : ∀ m ∈ F, Fits c.top c.stages m) (h : TInv c F o) : o.length ≤ 5832 := chn_states ok h.nd fun m hm => (h.rc m hm).fits ok hF
theorem idx_app {o : List (List Mem)} {m : List Mem} (p : List (List Mem)) (h : m ∈ o) : (o ++ p).idxOf m = o.idxOf m := by rw [List.idxOf_append, if_pos h]
theorem rowK_app {c : Chn} {o : List (List Mem)} {m : List Mem} {k : Nat} (p : List (List Mem)) (h : ∀ i : Nat, i < k → (c.go m i).2 ∈ o) : rowK c (o ++ p) m k = rowK c o m k := by
  unfold rowK
  congr 1
  refine List.map_congr_left fun i hi => ?_
  unfold cellD
  rw [idx_app p (h i (List.mem_range.mp hi))]
/-- the levels' rows of the first k states are closed -/
def Clo (c : Chn) (o : List (List Mem)) (k : Nat) : Prop := ∀ j, j < k → ∀ m, o[j]? = some m → ∀ i : Nat, i < c.lev → (c.go m i).2 ∈ o
theorem rows_app {c : Chn} {o : List (List Mem)} {k : Nat} (p : List (List Mem)) (hk : k ≤ o.length) (h : Clo c o k) : ((o ++ p).take k).map (rowD c (o ++ p)) = (o.take k).map (rowD c o) := by
  rw [List.take_append_of_le_length hk]
  refine List.map_congr_left fun m hm => ?_
  obtain ⟨j, hj, e⟩ := List.mem_iff_getElem.mp hm
  rw [List.getElem_take] at e
  have hj' : j < k := by rw [List.length_take] at hj; omega
  exact rowK_app p fun i hi => h j hj' m (by rw [List.getElem?_eq_getElem (by omega), e]) i hi
theorem Clo.app {c : Chn} {o : List (List Mem)} {k : Nat} (p : List (List Mem)) (hk : k ≤ o.length) (h : Clo c o k) : Clo c (o ++ p) k := fun j hj m e i hi => by
  rw [List.getElem?_append_left (by omega)] at e
  exact List.mem_append_left _ (h j hj m e i hi)
structure TabOk (c : Chn) (F o : List (List Mem)) : Prop extends Tab c F o where
  len : o.length ≤ 5832
def sp_table_from : FSpec := fun ds S R _ => ∃ (c : Chn) (F : List (List Mem)), ds = [c.d, .lst (F.map memsT)] ∧ c.Ok ∧ (∀ m ∈ F, Fits c.top c.stages m) ∧ F.length ≤ 100000 ∧ ∀ o, TabOk c F o → R (.val (.tup [plD o, rowsD c o])) S
theorem lev_nat {c : Chn} (ok : c.Ok) {x : Int} : Lev c.top x ↔ ∃ i : Nat, x = i ∧ i < c.lev := by
  have := ok.t1
  unfold Lev Chn.lev
  refine ⟨fun ⟨h1, h2⟩ => ⟨x.toNat, by omega, by omega⟩, fun ⟨i, e, h⟩ => by omega⟩
theorem vc_table_from (ds S R) (h : sp_table_from ds S R (fun _ _ => False)) : wf_table_from sp_with_place sp_step (ENDS R) (env0 10 ds) S := by
  obtain ⟨c, F, rfl, ok, hF, hlF, q⟩ := h
  have t1 := ok.t1
  have t5 := ok.t5
  ((try conv => whnf) <;> repeat ((first | (refine Ite.mt ?_ ?_; focus (first | rfl | (simp; done) | (simp; omega))) | (refine Ite.mf ?_ ?_; focus (first | rfl | (simp; done) | (simp; omega))) | (refine And.intro ?_ ?_; focus (first | rfl | decide | (simp; done) | (simp; omega) | omega))) <;> (try conv => whnf)))
  refine forW_map (f := memsT) (fun rem e s => ∃ (o done : List (List Mem)) (t2 : T) (t5 : Option T), e = [some (.val c.d), some (.val (.lst (F.map memsT))), some t2, some (.val (ordD o)), some (.val (.tup [])), t5, none, none, none, none] ∧ s = S ∧ T2 o t2 ∧ F = done ++ rem ∧ TInv c F o ∧ (∀ m ∈ done, m ∈ o) ∧ (∀ f r, done = f :: r → o[0]? = some f) ∧ (done = [] → o = [])) ?_ ?_
    ⟨[], [], _, none, rfl, rfl, .inr rfl, rfl, ⟨List.nodup_nil, fun _ h => by simp at h⟩, fun _ h => by simp at h, fun _ _ h => by simp at h, fun _ => rfl⟩
  · rintro e s ⟨o, done, t2, t5', rfl, rfl, ht, hd, hi, h1, h2, _⟩
    have hdF : F = done := by simpa using hd
    subst hdF
    refine show wSeq _ _ _ _ _ from ?_
    ((try conv => whnf) <;> repeat ((first | (refine Ite.mt ?_ ?_; focus (first | rfl | (simp; done) | (simp; omega))) | (refine Ite.mf ?_ ?_; focus (first | rfl | (simp; done) | (simp; omega))) | (refine And.intro ?_ ?_; focus (first | rfl | decide | (simp; done) | (simp; omega) | omega))) <;> (try conv => whnf)))
    refine ⟨fun m e s' => ∃ (o : List (List Mem)) (i : Nat) (t2 : T) (t5 t6 t7 t8 t9 : Option T), e = [some (.val c.d), some (.val (.lst (F.map memsT))), some t2, some (.val (ordD o)), some (.val (.tup ((o.take i).map (rowD c o)))), t5, t6, t7, t8, t9] ∧ s' = s ∧ T2 o t2 ∧ TInv c F o ∧ (∀ m ∈ F, m ∈ o) ∧ (∀ f r, F = f :: r → o[0]? = some f) ∧ Clo c o i ∧ i ≤ o.length ∧ m + i = 6000,
      ⟨6000, o, 0, t2, t5', none, none, none, none, rfl, rfl, ht, hi, h1, h2, fun j hj => by omega, Nat.zero_le _, rfl⟩, ?_⟩
    rintro m e s' ⟨o, i, t2, t5, t6, t7, t8, t9, rfl, rfl, ht, hi, h1, h2, hcl, hle, hm⟩
    have ol := hi.len ok hF
    have rl : ((o.take i).map (rowD c o)).length = i := by rw [List.length_map, List.length_take]; omega
    ((try conv => whnf) <;> repeat ((first | (refine Ite.mt ?_ ?_; focus (first | rfl | (simp; done) | (simp; omega))) | (refine Ite.mf ?_ ?_; focus (first | rfl | (simp; done) | (simp; omega))) | (refine And.intro ?_ ?_; focus (first | rfl | decide | (simp; done) | (simp; omega) | omega))) <;> (try conv => whnf)))
    rw [rl]
    refine Ite.intro (fun hc => ?_) (fun hc => ?_)
    · have hlt : i < o.length := by simp at hc; omega
      ((try conv => whnf) <;> repeat ((first | (refine Ite.mt ?_ ?_; focus (first | rfl | (simp; done) | (simp; omega))) | (refine Ite.mf ?_ ?_; focus (first | rfl | (simp; done) | (simp; omega))) | (refine And.intro ?_ ?_; focus (first | rfl | decide | (simp; done) | (simp; omega) | omega))) <;> (try conv => whnf)))
      rw [rl, atD_nat (i := i) (d := memsT o[i]) (by rw [List.getElem?_map, List.getElem?_eq_getElem hlt]; rfl)]
      ((try conv => whnf) <;> repeat ((first | (refine Ite.mt ?_ ?_; focus (first | rfl | (simp; done) | (simp; omega))) | (refine Ite.mf ?_ ?_; focus (first | rfl | (simp; done) | (simp; omega))) | (refine And.intro ?_ ?_; focus (first | rfl | decide | (simp; done) | (simp; omega) | omega))) <;> (try conv => whnf)))
      refine forW_rng (fun k e s'' => ∃ (p : List (List Mem)) (t2 : T) (t7 t8 t9 : Option T), e = [some (.val c.d), some (.val (.lst (F.map memsT))), some t2, some (.val (ordD (o ++ p))), some (.val (.tup ((o.take i).map (rowD c o)))), some (.val (memsT o[i])), some (.val (rowK c (o ++ p) o[i] k)), t7, t8, t9] ∧ s'' = s' ∧ T2 (o ++ p) t2 ∧ TInv c F (o ++ p) ∧ ∀ j : Nat, j < k → (c.go o[i] j).2 ∈ o ++ p) ?_ ?_ ⟨[], t2, t7, t8, t9, by rw [List.append_nil]; rfl, rfl, by rw [List.append_nil]; exact ht, by rw [List.append_nil]; exact hi, fun j hj => by omega⟩
      · rintro e s' ⟨p, t2, t7, t8, t9, rfl, rfl, ht, hi', hcl'⟩
        ((try conv => whnf) <;> repeat ((first | (refine Ite.mt ?_ ?_; focus (first | rfl | (simp; done) | (simp; omega))) | (refine Ite.mf ?_ ?_; focus (first | rfl | (simp; done) | (simp; omega))) | (refine And.intro ?_ ?_; focus (first | rfl | decide | (simp; done) | (simp; omega) | omega))) <;> (try conv => whnf)))
        refine ⟨th40 (by rw [rl]; simp; omega), ?_⟩
        ((try conv => whnf) <;> repeat ((first | (refine Ite.mt ?_ ?_; focus (first | rfl | (simp; done) | (simp; omega))) | (refine Ite.mf ?_ ?_; focus (first | rfl | (simp; done) | (simp; omega))) | (refine And.intro ?_ ?_; focus (first | rfl | decide | (simp; done) | (simp; omega) | omega))) <;> (try conv => whnf)))
        have hnd := hi'.nd
        have e1 : (o ++ p).take (i + 1) = (o ++ p).take i ++ [o[i]] := by
          rw [List.take_add_one, List.getElem?_append_left hlt, List.getElem?_eq_getElem hlt]; rfl
        have e2 : (o.take i).map (rowD c o) ++ [rowK c (o ++ p) o[i] c.lev] = ((o ++ p).take (i + 1)).map (rowD c (o ++ p)) := by
          rw [e1, List.map_append, rows_app p hle hcl]; rfl
        refine ⟨m - 1, by omega, o ++ p, i + 1, t2, _, _, _, _, _, by rw [← e2]; rfl, rfl, ht, hi', fun m hm => List.mem_append_left _ (h1 m hm), fun f r e => ?_, fun j hj m' e x hx => ?_, by simp; omega, by omega⟩
        · rw [List.getElem?_append_left (by omega)]; exact h2 f r e
        · by_cases hji : j = i
          · subst hji
            rw [List.getElem?_append_left hlt, List.getElem?_eq_getElem hlt] at e
            cases e
            exact hcl' x hx
          · exact hcl.app p hle j (by omega) m' e x hx
      · rintro k e s' K hk ⟨p, t2, t7, t8, t9, rfl, rfl, ht, hi', hcl'⟩ hK
        have ol' := hi'.len ok hF
        have hkl : k < c.lev := hk
        have hfit := (hi.rc o[i] (List.getElem_mem hlt)).fits ok hF
        have hlevk : Lev c.top (k : Int) := (lev_nat ok).mpr ⟨k, rfl, hkl⟩
        have hrch : Rch c F (c.go o[i] (k : Int)).2 := .step (hi.rc _ (List.getElem_mem hlt)) hlevk
        generalize hgo : c.go o[i] (k : Int) = r at hrch
        have rK : ∀ p', (∀ j : Nat, j < k → (c.go o[i] j).2 ∈ o ++ p') → rowK c (o ++ p') o[i] (k + 1) = .tup ((List.range k).map (cellD c (o ++ p') o[i]) ++ [.tup [.int r.1, .int ((o ++ p').idxOf r.2 : Nat)]]) := fun p' _ => by
          unfold rowK
          rw [List.range_succ, List.map_append]
          simp only [List.map_cons, List.map_nil, cellD, hgo]
        have fin : ∀ (o' p' : List (List Mem)) (t2' : T) (t7 t8 t9 : Option T) (s'' : Sto) (n : Nat), o' = o ++ p' → s'' = s' → T2 o' t2' → TInv c F o' → (∀ j : Nat, j < k → (c.go o[i] j).2 ∈ o') → r.2 ∈ o' → rowK c o' o[i] k = rowK c (o ++ p) o[i] k → n = o'.idxOf r.2 →
            K [some (.val c.d), some (.val (.lst (F.map memsT))), some t2', some (.val (.tup (o'.map memsT))), some (.val (.tup ((o.take i).map (rowD c o)))), some (.val (memsT o[i])), some (.val (.tup ((List.range k).map (cellD c (o ++ p) o[i]) ++ [.tup [.int r.1, .int (n : Nat)]]))), t7, t8, t9] s'' := fun o' p' t2' t7 t8 t9 s'' n eo es h1 h2 h3 h4 h5 en => by
          subst es eo en
          refine hK _ _ ⟨p', t2', t7, t8, t9, ?_, rfl, h1, h2, fun j hj => ?_⟩
          · have e6 : (List.range k).map (cellD c (o ++ p) o[i]) = (List.range k).map (cellD c (o ++ p') o[i]) := by
              have := h5.symm
              unfold rowK at this
              exact D.tup.inj this
            rw [rK p' h3, e6]
          · by_cases hjk : j = k
            · subst hjk; rw [hgo]; exact h4
            · exact h3 j (by omega)
        have ix : ∀ (o' : List (List Mem)), r.2 ∈ o' → (o'.map memsT)[o'.idxOf r.2]? = some (memsT r.2) := fun o' h => by
          rw [List.getElem?_map, List.getElem?_eq_getElem (List.idxOf_lt_length_of_mem h), List.getElem_idxOf]; rfl
        have hgo' : step c.stages o[i] (0 + (k : Int)) = r := by rw [Int.zero_add]; exact hgo
        rcases ht with rfl | rfl <;> (
          ((try conv => whnf) <;> repeat ((first | (refine Ite.mt ?_ ?_; focus (first | rfl | (simp; done) | (simp; omega))) | (refine Ite.mf ?_ ?_; focus (first | rfl | (simp; done) | (simp; omega))) | (refine And.intro ?_ ?_; focus (first | rfl | decide | (simp; done) | (simp; omega) | omega))) <;> (try conv => whnf)))
          refine ⟨c.top, c.stages, o[i], _, rfl, hfit, by have := ok.len; omega, ?_⟩
          rw [hgo']
          ((try conv => whnf) <;> repeat ((first | (refine Ite.mt ?_ ?_; focus (first | rfl | (simp; done) | (simp; omega))) | (refine Ite.mf ?_ ?_; focus (first | rfl | (simp; done) | (simp; omega))) | (refine And.intro ?_ ?_; focus (first | rfl | decide | (simp; done) | (simp; omega) | omega))) <;> (try conv => whnf)))
          refine ⟨⟨mems_kok r.2, mems_kinds _ _, pl_len _⟩, fun b hb => ?_⟩
          have hb := hb.trans mems_in
          cases b with
          | true =>
            have hm := hb.mp rfl
            ((try conv => whnf) <;> repeat ((first | (refine Ite.mt ?_ ?_; focus (first | rfl | (simp; done) | (simp; omega))) | (refine Ite.mf ?_ ?_; focus (first | rfl | (simp; done) | (simp; omega))) | (refine And.intro ?_ ?_; focus (first | rfl | decide | (simp; done) | (simp; omega) | omega))) <;> (try conv => whnf)))
            refine ⟨⟨mems_kok r.2, mems_kinds _ _⟩, _, _, ix _ hm, natsD_get (List.idxOf_lt_length_of_mem hm), ?_⟩
            ((try conv => whnf) <;> repeat ((first | (refine Ite.mt ?_ ?_; focus (first | rfl | (simp; done) | (simp; omega))) | (refine Ite.mf ?_ ?_; focus (first | rfl | (simp; done) | (simp; omega))) | (refine And.intro ?_ ?_; focus (first | rfl | decide | (simp; done) | (simp; omega) | omega))) <;> (try conv => whnf)))
            refine ⟨th40 (by simp; have := ok.t5; unfold Chn.lev at hkl; omega), ?_⟩
            ((try conv => whnf) <;> repeat ((first | (refine Ite.mt ?_ ?_; focus (first | rfl | (simp; done) | (simp; omega))) | (refine Ite.mf ?_ ?_; focus (first | rfl | (simp; done) | (simp; omega))) | (refine And.intro ?_ ?_; focus (first | rfl | decide | (simp; done) | (simp; omega) | omega))) <;> (try conv => whnf)))
            exact fin _ p _ _ _ _ _ _ rfl rfl (by first | exact .inl rfl | exact .inr rfl) hi' hcl' hm rfl rfl
          | false =>
            have hm : r.2 ∉ o ++ p := fun h => by simpa using hb.mpr h
            have hnd := nodup_snoc hi'.nd hm
            have ha := hi'.app hrch hm
            ((try conv => whnf) <;> repeat ((first | (refine Ite.mt ?_ ?_; focus (first | rfl | (simp; done) | (simp; omega))) | (refine Ite.mf ?_ ?_; focus (first | rfl | (simp; done) | (simp; omega))) | (refine And.intro ?_ ?_; focus (first | rfl | decide | (simp; done) | (simp; omega) | omega))) <;> (try conv => whnf)))
            refine ⟨(o ++ p).map memsT, memsT r.2, by rw [List.length_map], ?_, ?_⟩
            · have := ksOk_mems hnd (by simp at ol' ⊢; omega)
              rwa [List.map_append] at this
            · ((try conv => whnf) <;> repeat ((first | (refine Ite.mt ?_ ?_; focus (first | rfl | (simp; done) | (simp; omega))) | (refine Ite.mf ?_ ?_; focus (first | rfl | (simp; done) | (simp; omega))) | (refine And.intro ?_ ?_; focus (first | rfl | decide | (simp; done) | (simp; omega) | omega))) <;> (try conv => whnf)))
              refine ⟨th40 (by simp at ol' ⊢; omega), ?_⟩
              ((try conv => whnf) <;> repeat ((first | (refine Ite.mt ?_ ?_; focus (first | rfl | (simp; done) | (simp; omega))) | (refine Ite.mf ?_ ?_; focus (first | rfl | (simp; done) | (simp; omega))) | (refine And.intro ?_ ?_; focus (first | rfl | decide | (simp; done) | (simp; omega) | omega))) <;> (try conv => whnf)))
              have e8 : (o ++ p).map memsT ++ [memsT r.2] = ((o ++ p) ++ [r.2]).map memsT := by rw [List.map_append (l₁ := o ++ p)]; rfl
              have e7 : ((o ++ p) ++ [r.2]).idxOf r.2 = (o ++ p).length := by
                rw [List.idxOf_append, if_neg hm]; simp [List.idxOf_cons]
              refine ⟨⟨mems_kok r.2, by have := mems_kinds ((o ++ p) ++ [r.2]) r.2; rwa [← e8] at this⟩, (o ++ p).length, .int ((o ++ p).length : Nat), by rw [List.getElem?_append_right (by rw [List.length_map]; omega), List.length_map, Nat.sub_self]; rfl, by rw [List.length_map]; exact natsD_get (by omega), ?_⟩
              ((try conv => whnf) <;> repeat ((first | (refine Ite.mt ?_ ?_; focus (first | rfl | (simp; done) | (simp; omega))) | (refine Ite.mf ?_ ?_; focus (first | rfl | (simp; done) | (simp; omega))) | (refine And.intro ?_ ?_; focus (first | rfl | decide | (simp; done) | (simp; omega) | omega))) <;> (try conv => whnf)))
              refine ⟨th40 (by simp; have := ok.t5; unfold Chn.lev at hkl; omega), ?_⟩
              ((try conv => whnf) <;> repeat ((first | (refine Ite.mt ?_ ?_; focus (first | rfl | (simp; done) | (simp; omega))) | (refine Ite.mf ?_ ?_; focus (first | rfl | (simp; done) | (simp; omega))) | (refine And.intro ?_ ?_; focus (first | rfl | decide | (simp; done) | (simp; omega) | omega))) <;> (try conv => whnf)))
              have f := fin ((o ++ p) ++ [r.2]) (p ++ [r.2]) (.own (.dct (((o ++ p) ++ [r.2]).map memsT) (natsD ((o ++ p) ++ [r.2]).length))) (some (.val (.int (0 + (k : Int))))) (some (.val (.int r.1))) (some (.val (memsT r.2))) s' _ (List.append_assoc ..) rfl (.inr rfl) ha (fun j hj => List.mem_append_left _ (hcl' j hj)) (by simp) (rowK_app _ hcl') e7.symm
              rw [← e8, List.length_append (as := o ++ p)] at f
              rw [List.length_map]
              exact f)
    · have hge : i = o.length := by simp at hc; omega
      subst hge
      rw [List.take_length] at *
      rcases ht with rfl | rfl <;> (
        ((try conv => whnf) <;> repeat ((first | (refine Ite.mt ?_ ?_; focus (first | rfl | (simp; done) | (simp; omega))) | (refine Ite.mf ?_ ?_; focus (first | rfl | (simp; done) | (simp; omega))) | (refine And.intro ?_ ?_; focus (first | rfl | decide | (simp; done) | (simp; omega) | omega))) <;> (try conv => whnf)))
        refine q o ⟨⟨hi.nd, h1, h2, fun m hm x hx => ?_, hi.rc⟩, ol⟩
        obtain ⟨j, hj, e⟩ := List.mem_iff_getElem.mp hm
        obtain ⟨i, rfl, hi'⟩ := (lev_nat ok).mp hx
        exact hcl j hj m (by rw [List.getElem?_eq_getElem hj, e]) i hi')
  · rintro a as e s K ⟨o, done, t2, t5', rfl, rfl, ht, hd, hi, h1, h2, h3⟩ hK
    have ol := hi.len ok hF
    have key : ∀ b : Bool, (b = true ↔ memsT a ∈ o.map memsT) → (b = true ↔ a ∈ o) := fun b h => h.trans mems_in
    rcases ht with rfl | rfl <;> (
      ((try conv => whnf) <;> repeat ((first | (refine Ite.mt ?_ ?_; focus (first | rfl | (simp; done) | (simp; omega))) | (refine Ite.mf ?_ ?_; focus (first | rfl | (simp; done) | (simp; omega))) | (refine And.intro ?_ ?_; focus (first | rfl | decide | (simp; done) | (simp; omega) | omega))) <;> (try conv => whnf)))
      refine ⟨⟨mems_kok a, mems_kinds o a, pl_len o⟩, fun b hb => ?_⟩
      have hb := key b hb
      cases b with
      | true =>
        have ha : a ∈ o := hb.mp rfl
        ((try conv => whnf) <;> repeat ((first | (refine Ite.mt ?_ ?_; focus (first | rfl | (simp; done) | (simp; omega))) | (refine Ite.mf ?_ ?_; focus (first | rfl | (simp; done) | (simp; omega))) | (refine And.intro ?_ ?_; focus (first | rfl | decide | (simp; done) | (simp; omega) | omega))) <;> (try conv => whnf)))
        refine hK _ _ ⟨o, done ++ [a], _, _, rfl, rfl, by first | exact .inl rfl | exact .inr rfl, by simp [hd], hi, fun m hm => ?_, fun f r e => ?_, fun e => by simp at e⟩
        · rcases List.mem_append.mp hm with hm | hm
          · exact h1 m hm
          · rw [List.mem_singleton.mp hm]; exact ha
        · cases done with
          | nil => rw [h3 rfl] at ha; simp at ha
          | cons f' r' => exact h2 f r' (by simp at e; rw [e.1])
      | false =>
        have ha : a ∉ o := fun h => by simpa using hb.mpr h
        have hnd := nodup_snoc hi.nd ha
        have hrc : TInv c F (o ++ [a]) := hi.app (.base (by rw [hd]; simp)) ha
        ((try conv => whnf) <;> repeat ((first | (refine Ite.mt ?_ ?_; focus (first | rfl | (simp; done) | (simp; omega))) | (refine Ite.mf ?_ ?_; focus (first | rfl | (simp; done) | (simp; omega))) | (refine And.intro ?_ ?_; focus (first | rfl | decide | (simp; done) | (simp; omega) | omega))) <;> (try conv => whnf)))
        refine ⟨o.map memsT, memsT a, by rw [List.length_map], ?_, ?_⟩
        · have := ksOk_mems hnd (by simp; omega)
          rwa [List.map_append] at this
        · ((try conv => whnf) <;> repeat ((first | (refine Ite.mt ?_ ?_; focus (first | rfl | (simp; done) | (simp; omega))) | (refine Ite.mf ?_ ?_; focus (first | rfl | (simp; done) | (simp; omega))) | (refine And.intro ?_ ?_; focus (first | rfl | decide | (simp; done) | (simp; omega) | omega))) <;> (try conv => whnf)))
          refine ⟨th40 (by simp; omega), ?_⟩
          ((try conv => whnf) <;> repeat ((first | (refine Ite.mt ?_ ?_; focus (first | rfl | (simp; done) | (simp; omega))) | (refine Ite.mf ?_ ?_; focus (first | rfl | (simp; done) | (simp; omega))) | (refine And.intro ?_ ?_; focus (first | rfl | decide | (simp; done) | (simp; omega) | omega))) <;> (try conv => whnf)))
          refine hK _ _ ⟨o ++ [a], done ++ [a], .own (.dct (o.map memsT ++ [memsT a]) (natsD ((o.map memsT).length + 1))), some (.val (memsT a)), by simp only [ordD, List.map_append]; rfl, rfl, ?_, by simp [hd], hrc, fun m hm => ?_, fun f r e => ?_, fun e => by simp at e⟩
          · refine .inr ?_
            rw [List.map_append, List.length_append, List.length_map]; rfl
          · rcases List.mem_append.mp hm with hm | hm
            · exact List.mem_append_left _ (h1 m hm)
            · exact List.mem_append_right _ hm
          · cases done with
            | nil => rw [h3 rfl]; simp at e; simp [e.1]
            | cons f' r' =>
              have := h2 f r' (by simp at e; rw [e.1])
              rw [List.getElem?_append_left (List.getElem?_eq_some_iff.mp this).1]
              exact this)
end VC

set_option Elab.async false
set_option linter.all false
set_option maxRecDepth 100000
set_option maxHeartbeats 4000000
/-! N3: rows_of, states; the laws' own table. -/
namespace VC
open PySem PySem.Spec PyProof.Rows L2
theorem first_fits {c : Chn} (ok : c.Ok) : ∀ m ∈ [c.first], Fits c.top c.stages m := fun m hm => by rw [List.mem_singleton.mp hm]; exact c.first_ok ok
def sp_rows_of : FSpec := fun ds S R _ => ∃ c : Chn, ds = [c.d] ∧ c.Ok ∧ ∀ o, TabOk c [c.first] o → R (.val (rowsD c o)) S
theorem vc_rows_of (ds S R) (h : sp_rows_of ds S R (fun _ _ => False)) : wf_rows_of sp_table_from sp_first_state (ENDS R) (env0 1 ds) S := by
  obtain ⟨c, rfl, ok, q⟩ := h
  ((try conv => whnf) <;> repeat ((first | (refine Ite.mt ?_ ?_; focus (first | rfl | (simp; done) | (simp; omega))) | (refine Ite.mf ?_ ?_; focus (first | rfl | (simp; done) | (simp; omega))) | (refine And.intro ?_ ?_; focus (first | rfl | decide | (simp; done) | (simp; omega) | omega))) <;> (try conv => whnf)))
  refine ⟨c, rfl, ok, ?_⟩
  ((try conv => whnf) <;> repeat ((first | (refine Ite.mt ?_ ?_; focus (first | rfl | (simp; done) | (simp; omega))) | (refine Ite.mf ?_ ?_; focus (first | rfl | (simp; done) | (simp; omega))) | (refine And.intro ?_ ?_; focus (first | rfl | decide | (simp; done) | (simp; omega) | omega))) <;> (try conv => whnf)))
  refine ⟨c, [c.first], rfl, ok, first_fits ok, by simp, fun o ho => ?_⟩
  ((try conv => whnf) <;> repeat ((first | (refine Ite.mt ?_ ?_; focus (first | rfl | (simp; done) | (simp; omega))) | (refine Ite.mf ?_ ?_; focus (first | rfl | (simp; done) | (simp; omega))) | (refine And.intro ?_ ?_; focus (first | rfl | decide | (simp; done) | (simp; omega) | omega))) <;> (try conv => whnf)))
  exact q o ho
def sp_states : FSpec := fun ds S R _ => ∃ c : Chn, ds = [c.d] ∧ c.Ok ∧ ∀ o, TabOk c [c.first] o → R (.own (.lst (srtD (o.map memsT)))) S
theorem TabOk.srt {c : Chn} (ok : c.Ok) {F o : List (List Mem)} (hF : ∀ m ∈ F, Fits c.top c.stages m) (h : TabOk c F o) : SrtOk (o.map memsT) := srtOk_st (fun m hm => (h.rc m hm).fits ok hF) h.nd (Nat.le_trans h.len (by decide))
theorem vc_states (ds S R) (h : sp_states ds S R (fun _ _ => False)) : wf_states sp_table_from sp_first_state sp_need_chain (ENDS R) (env0 1 ds) S := by
  obtain ⟨c, rfl, ok, q⟩ := h
  ((try conv => whnf) <;> repeat ((first | (refine Ite.mt ?_ ?_; focus (first | rfl | (simp; done) | (simp; omega))) | (refine Ite.mf ?_ ?_; focus (first | rfl | (simp; done) | (simp; omega))) | (refine And.intro ?_ ?_; focus (first | rfl | decide | (simp; done) | (simp; omega) | omega))) <;> (try conv => whnf)))
  refine ⟨c, rfl, ok, ?_⟩
  ((try conv => whnf) <;> repeat ((first | (refine Ite.mt ?_ ?_; focus (first | rfl | (simp; done) | (simp; omega))) | (refine Ite.mf ?_ ?_; focus (first | rfl | (simp; done) | (simp; omega))) | (refine And.intro ?_ ?_; focus (first | rfl | decide | (simp; done) | (simp; omega) | omega))) <;> (try conv => whnf)))
  refine ⟨c, rfl, ok, ?_⟩
  ((try conv => whnf) <;> repeat ((first | (refine Ite.mt ?_ ?_; focus (first | rfl | (simp; done) | (simp; omega))) | (refine Ite.mf ?_ ?_; focus (first | rfl | (simp; done) | (simp; omega))) | (refine And.intro ?_ ?_; focus (first | rfl | decide | (simp; done) | (simp; omega) | omega))) <;> (try conv => whnf)))
  refine ⟨c, [c.first], rfl, ok, first_fits ok, by simp, fun o ho => ?_⟩
  ((try conv => whnf) <;> repeat ((first | (refine Ite.mt ?_ ?_; focus (first | rfl | (simp; done) | (simp; omega))) | (refine Ite.mf ?_ ?_; focus (first | rfl | (simp; done) | (simp; omega))) | (refine And.intro ?_ ?_; focus (first | rfl | decide | (simp; done) | (simp; omega) | omega))) <;> (try conv => whnf)))
  exact ⟨ho.srt ok (first_fits ok), q o ho⟩
/-! ### the law's table -/
def lcell (c : Chn) (m : List Mem) (i : Nat) : D := .tup [.int (c.go m i).1, memsT (c.go m i).2]
def lrowD (c : Chn) (m : List Mem) : D := .lst ((List.range c.lev).map (lcell c m))
def sp__law_table : FSpec := fun ds S R _ => ∃ (c : Chn) (F : List (List Mem)), ds = [c.d, .lst (F.map memsT)] ∧ c.Ok ∧ (∀ m ∈ F, Fits c.top c.stages m) ∧ F.length ≤ 1000 ∧
  ∀ p : List (List Mem), p.Nodup → (∀ m, m ∈ p ↔ Rch c F m) → p.length ≤ 5832 → R (.own (.dct (p.map memsT) (p.map (lrowD c)))) S
structure LInv (c : Chn) (F p q : List (List Mem)) (k : Nat) : Prop where
  nd : p.Nodup
  rp : ∀ m ∈ p, Rch c F m
  rq : ∀ m ∈ q, Rch c F m
  fq : ∀ m ∈ F, m ∈ q
  dn : ∀ m ∈ q.take k, m ∈ p
  cl : ∀ m ∈ p, ∀ i : Nat, i < c.lev → (c.go m i).2 ∈ p ∨ (c.go m i).2 ∈ q
  ql : q.length ≤ F.length + 6 * p.length
  kl : k ≤ q.length
theorem lev6 {c : Chn} (ok : c.Ok) : c.lev ≤ 6 := by have := ok.t5; unfold Chn.lev; omega
theorem vc__law_table (ds S R) (h : sp__law_table ds S R (fun _ _ => False)) : wf_law_table sp__law_tick (ENDS R) (env0 9 ds) S := by
  obtain ⟨c, F, rfl, ok, hF, hlF, q0⟩ := h
  have t1 := ok.t1
  have t5 := ok.t5
  have l6 := lev6 ok
  ((try conv => whnf) <;> repeat ((first | (refine Ite.mt ?_ ?_; focus (first | rfl | (simp; done) | (simp; omega))) | (refine Ite.mf ?_ ?_; focus (first | rfl | (simp; done) | (simp; omega))) | (refine And.intro ?_ ?_; focus (first | rfl | decide | (simp; done) | (simp; omega) | omega))) <;> (try conv => whnf)))
  refine ⟨fun m e s => ∃ (p q : List (List Mem)) (k : Nat) (t5 : Option T), e = [some (.val c.d), some (.val (.lst (F.map memsT))), some (.own (.dct (p.map memsT) (p.map (lrowD c)))), some (.own (.lst (q.map memsT))), some (.val (.int (k : Int))), t5, none, none, none] ∧ s = S ∧ LInv c F p q k ∧ m = (6000 - p.length) * 7 + (q.length - k),
    ⟨_, [], F, 0, none, rfl, rfl, ⟨List.nodup_nil, fun _ h => by simp at h, fun m h => .base h, fun _ h => h, fun _ h => by simp at h, fun _ h => by simp at h, by simp, Nat.zero_le _⟩, rfl⟩, ?_⟩
  rintro m e s ⟨p, q, k, t5, rfl, rfl, I, rfl⟩
  have pl : p.length ≤ 5832 := chn_states ok I.nd fun m hm => (I.rp m hm).fits ok hF
  have ql := I.ql
  ((try conv => whnf) <;> repeat ((first | (refine Ite.mt ?_ ?_; focus (first | rfl | (simp; done) | (simp; omega))) | (refine Ite.mf ?_ ?_; focus (first | rfl | (simp; done) | (simp; omega))) | (refine And.intro ?_ ?_; focus (first | rfl | decide | (simp; done) | (simp; omega) | omega))) <;> (try conv => whnf)))
  refine Ite.intro (fun hc => ?_) (fun hc => ?_)
  · have hk : k < q.length := by simpa using hc
    ((try conv => whnf) <;> repeat ((first | (refine Ite.mt ?_ ?_; focus (first | rfl | (simp; done) | (simp; omega))) | (refine Ite.mf ?_ ?_; focus (first | rfl | (simp; done) | (simp; omega))) | (refine And.intro ?_ ?_; focus (first | rfl | decide | (simp; done) | (simp; omega) | omega))) <;> (try conv => whnf)))
    rw [atD_nat (i := k) (d := memsT q[k]) (by rw [List.getElem?_map, List.getElem?_eq_getElem hk]; rfl)]
    ((try conv => whnf) <;> repeat ((first | (refine Ite.mt ?_ ?_; focus (first | rfl | (simp; done) | (simp; omega))) | (refine Ite.mf ?_ ?_; focus (first | rfl | (simp; done) | (simp; omega))) | (refine And.intro ?_ ?_; focus (first | rfl | decide | (simp; done) | (simp; omega) | omega))) <;> (try conv => whnf)))
    refine ⟨⟨mems_kok _, mems_kinds _ _, by simp⟩, fun b hb => ?_⟩
    have hb := hb.trans mems_in
    have hqk := I.rq _ (List.getElem_mem hk)
    have hfit := hqk.fits ok hF
    cases b with
    | true =>
      have hm := hb.mp rfl
      ((try conv => whnf) <;> repeat ((first | (refine Ite.mt ?_ ?_; focus (first | rfl | (simp; done) | (simp; omega))) | (refine Ite.mf ?_ ?_; focus (first | rfl | (simp; done) | (simp; omega))) | (refine And.intro ?_ ?_; focus (first | rfl | decide | (simp; done) | (simp; omega) | omega))) <;> (try conv => whnf)))
      refine ⟨(6000 - p.length) * 7 + (q.length - (k + 1)), by omega, p, q, k + 1, _, rfl, rfl, ⟨I.nd, I.rp, I.rq, I.fq, fun m hm' => ?_, I.cl, ql, hk⟩, rfl⟩
      rw [List.take_add_one, List.getElem?_eq_getElem hk] at hm'
      rcases List.mem_append.mp hm' with h | h
      · exact I.dn m h
      · simp at h; rw [h]; exact hm
    | false =>
      have hm : q[k] ∉ p := fun h => by simpa using hb.mpr h
      ((try conv => whnf) <;> repeat ((first | (refine Ite.mt ?_ ?_; focus (first | rfl | (simp; done) | (simp; omega))) | (refine Ite.mf ?_ ?_; focus (first | rfl | (simp; done) | (simp; omega))) | (refine And.intro ?_ ?_; focus (first | rfl | decide | (simp; done) | (simp; omega) | omega))) <;> (try conv => whnf)))
      refine ⟨⟨rfl, by rw [rngD_len]; show c.lev ≤ _; omega⟩, ?_⟩
      refine lcW_rng (fun i acc e s' => acc = (List.range i).map (lcell c q[k]) ∧ e = [some (.val c.d), some (.val (.lst (F.map memsT))), some (.own (.dct (p.map memsT) (p.map (lrowD c)))), some (.own (.lst (q.map memsT))), some (.val (.int (k : Int))), some (.val (memsT q[k])), none, none, none] ∧ s' = s) ?_ ?_ ⟨rfl, rfl, rfl⟩
      · rintro acc e s' ⟨rfl, rfl, rfl⟩
        have e8 : p.map memsT ++ [memsT q[k]] = (p ++ [q[k]]).map memsT := by rw [List.map_append]; rfl
        have e9 : p.map (lrowD c) ++ [.lst ((List.range c.lev).map (lcell c q[k]))] = (p ++ [q[k]]).map (lrowD c) := by rw [List.map_append]; rfl
        ((try conv => whnf) <;> repeat ((first | (refine Ite.mt ?_ ?_; focus (first | rfl | (simp; done) | (simp; omega))) | (refine Ite.mf ?_ ?_; focus (first | rfl | (simp; done) | (simp; omega))) | (refine And.intro ?_ ?_; focus (first | rfl | decide | (simp; done) | (simp; omega) | omega))) <;> (try conv => whnf)))
        refine ⟨⟨rfl, mems_kok _, mems_kinds _ _, by rw [List.length_map]; omega⟩, .inr ⟨fun h => hm (mems_in.mp h), ?_⟩⟩
        refine show wSeq _ _ _ _ _ from ?_
        have hnd := nodup_snoc I.nd hm
        have pl' : (p ++ [q[k]]).length ≤ 5832 := chn_states ok hnd fun m hm' => by
          rcases List.mem_append.mp hm' with h | h
          · exact (I.rp m h).fits ok hF
          · rw [List.mem_singleton.mp h]; exact hfit
        have kd8 := mems_kinds (p ++ [q[k]])
        rw [← e8] at kd8
        have ln8 : (p.map (lrowD c) ++ [D.lst ((List.range c.lev).map (lcell c q[k]))]).length = (p.map memsT ++ [memsT q[k]]).length := by simp
        ((try conv => whnf) <;> repeat ((first | (refine Ite.mt ?_ ?_; focus (first | rfl | (simp; done) | (simp; omega))) | (refine Ite.mf ?_ ?_; focus (first | rfl | (simp; done) | (simp; omega))) | (refine And.intro ?_ ?_; focus (first | rfl | decide | (simp; done) | (simp; omega) | omega))) <;> (try conv => whnf)))
        refine ⟨⟨mems_kok _, kd8 _⟩, p.length, .lst ((List.range c.lev).map (lcell c q[k])), by rw [List.getElem?_append_right (by rw [List.length_map]; omega), List.length_map, Nat.sub_self]; rfl, by rw [List.getElem?_append_right (by rw [List.length_map]; omega), List.length_map, Nat.sub_self]; rfl, ?_⟩
        ((try conv => whnf) <;> repeat ((first | (refine Ite.mt ?_ ?_; focus (first | rfl | (simp; done) | (simp; omega))) | (refine Ite.mf ?_ ?_; focus (first | rfl | (simp; done) | (simp; omega))) | (refine And.intro ?_ ?_; focus (first | rfl | decide | (simp; done) | (simp; omega) | omega))) <;> (try conv => whnf)))
        refine ⟨⟨rfl, by simp; omega⟩, ?_⟩
        refine lcW_pure (lcell c q[k]) (fun i => if (c.go q[k] i).2 ∈ p ++ [q[k]] then none else some (memsT (c.go q[k] i).2)) _ _ (fun i hi K acc hK => ?_) ?_
        · ((try conv => whnf) <;> repeat ((first | (refine Ite.mt ?_ ?_; focus (first | rfl | (simp; done) | (simp; omega))) | (refine Ite.mf ?_ ?_; focus (first | rfl | (simp; done) | (simp; omega))) | (refine And.intro ?_ ?_; focus (first | rfl | decide | (simp; done) | (simp; omega) | omega))) <;> (try conv => whnf)))
          refine ⟨⟨mems_kok _, kd8 _, ln8⟩, fun b hb => ?_⟩
          rw [e8] at hb
          have hb := hb.trans mems_in
          cases b with
          | true =>
            rw [if_pos (hb.mp rfl)] at hK
            ((try conv => whnf) <;> repeat ((first | (refine Ite.mt ?_ ?_; focus (first | rfl | (simp; done) | (simp; omega))) | (refine Ite.mf ?_ ?_; focus (first | rfl | (simp; done) | (simp; omega))) | (refine And.intro ?_ ?_; focus (first | rfl | decide | (simp; done) | (simp; omega) | omega))) <;> (try conv => whnf)))
            rw [show acc ++ (none : Option D).toList = acc from List.append_nil _] at hK
            exact hK
          | false =>
            rw [if_neg (fun h => by simpa using hb.mpr h)] at hK
            ((try conv => whnf) <;> repeat ((first | (refine Ite.mt ?_ ?_; focus (first | rfl | (simp; done) | (simp; omega))) | (refine Ite.mf ?_ ?_; focus (first | rfl | (simp; done) | (simp; omega))) | (refine And.intro ?_ ?_; focus (first | rfl | decide | (simp; done) | (simp; omega) | omega))) <;> (try conv => whnf)))
            exact hK
        · have en : ((List.range c.lev).filterMap fun i : Nat => if (c.go q[k] i).2 ∈ p ++ [q[k]] then none else some (memsT (c.go q[k] i).2)) = (((List.range c.lev).filter fun i : Nat => decide ((c.go q[k] i).2 ∉ p ++ [q[k]])).map fun i : Nat => (c.go q[k] i).2).map memsT := by
            generalize List.range c.lev = l
            induction l with
            | nil => rfl
            | cons a l ih =>
              rw [List.filterMap_cons, List.filter_cons]
              by_cases h : (c.go q[k] a).2 ∈ p ++ [q[k]]
              · rw [if_pos h, if_neg (by rw [decide_eq_true_eq]; exact fun h2 => h2 h)]; exact ih
              · rw [if_neg h, if_pos (by rw [decide_eq_true_eq]; exact h), List.map_cons, List.map_cons, ih]
          rw [en]
          generalize hN : (((List.range c.lev).filter fun i : Nat => decide ((c.go q[k] i).2 ∉ p ++ [q[k]])).map fun i : Nat => (c.go q[k] i).2) = nw
          have nl : nw.length ≤ 6 := by
            rw [← hN, List.length_map]
            exact Nat.le_trans (List.length_filter_le _ _) (by rw [List.length_range]; exact l6)
          have nm : ∀ m, m ∈ nw ↔ (∃ i : Nat, i < c.lev ∧ (c.go q[k] i).2 = m) ∧ m ∉ p ++ [q[k]] := fun m => by
            rw [← hN, List.mem_map]
            constructor
            · rintro ⟨i, hi, rfl⟩
              rw [List.mem_filter, List.mem_range] at hi
              exact ⟨⟨i, hi.1, rfl⟩, of_decide_eq_true hi.2⟩
            · rintro ⟨⟨i, hi, rfl⟩, h⟩
              exact ⟨i, by rw [List.mem_filter, List.mem_range]; exact ⟨hi, decide_eq_true h⟩, rfl⟩
          ((try conv => whnf) <;> repeat ((first | (refine Ite.mt ?_ ?_; focus (first | rfl | (simp; done) | (simp; omega))) | (refine Ite.mf ?_ ?_; focus (first | rfl | (simp; done) | (simp; omega))) | (refine And.intro ?_ ?_; focus (first | rfl | decide | (simp; done) | (simp; omega) | omega))) <;> (try conv => whnf)))
          refine ⟨th40 (by simp; omega), ?_⟩
          ((try conv => whnf) <;> repeat ((first | (refine Ite.mt ?_ ?_; focus (first | rfl | (simp; done) | (simp; omega))) | (refine Ite.mf ?_ ?_; focus (first | rfl | (simp; done) | (simp; omega))) | (refine And.intro ?_ ?_; focus (first | rfl | decide | (simp; done) | (simp; omega) | omega))) <;> (try conv => whnf)))
          have e5 : p.map (lrowD c) ++ [D.lst ((List.range c.lev).map (lcell c q[k]))] = (p ++ [q[k]]).map (lrowD c) := e9
          refine ⟨(6000 - (p ++ [q[k]]).length) * 7 + ((q ++ nw).length - (k + 1)), by simp; omega, p ++ [q[k]], q ++ nw, k + 1, _, by rw [← e8, ← e5, List.map_append]; rfl, rfl, ?_, rfl⟩
          refine ⟨hnd, fun m h => ?_, fun m h => ?_, fun m h => List.mem_append_left _ (I.fq m h), fun m h => ?_, fun m h i hi => ?_, by simp; omega, by simp; omega⟩
          · rcases List.mem_append.mp h with h | h
            · exact I.rp m h
            · rw [List.mem_singleton.mp h]; exact hqk
          · rcases List.mem_append.mp h with h | h
            · exact I.rq m h
            · obtain ⟨⟨i, hi, rfl⟩, _⟩ := (nm m).mp h
              exact .step hqk ((lev_nat ok).mpr ⟨i, rfl, hi⟩)
          · rw [List.take_append_of_le_length (by omega), List.take_add_one, List.getElem?_eq_getElem hk] at h
            rcases List.mem_append.mp h with h | h
            · exact List.mem_append_left _ (I.dn m h)
            · exact List.mem_append_right _ (by simpa using h)
          · rcases List.mem_append.mp h with h | h
            · rcases I.cl m h i hi with z | z
              · exact .inl (List.mem_append_left _ z)
              · exact .inr (List.mem_append_left _ z)
            · rw [List.mem_singleton.mp h]
              by_cases z : (c.go q[k] i).2 ∈ p ++ [q[k]]
              · exact .inl z
              · exact .inr (List.mem_append_right _ ((nm _).mpr ⟨⟨i, hi, rfl⟩, z⟩))
      · rintro i acc e s' K hi ⟨rfl, rfl, rfl⟩ hK
        ((try conv => whnf) <;> repeat ((first | (refine Ite.mt ?_ ?_; focus (first | rfl | (simp; done) | (simp; omega))) | (refine Ite.mf ?_ ?_; focus (first | rfl | (simp; done) | (simp; omega))) | (refine And.intro ?_ ?_; focus (first | rfl | decide | (simp; done) | (simp; omega) | omega))) <;> (try conv => whnf)))
        refine ⟨c, q[k], _, rfl, hfit, by have := ok.len; omega, ok.ok, ?_⟩
        refine hK _ _ _ ⟨?_, rfl, rfl⟩
        rw [List.range_succ, List.map_append, Int.zero_add]; rfl
  · have hk : k = q.length := by have := I.kl; simp at hc; omega
    subst hk
    ((try conv => whnf) <;> repeat ((first | (refine Ite.mt ?_ ?_; focus (first | rfl | (simp; done) | (simp; omega))) | (refine Ite.mf ?_ ?_; focus (first | rfl | (simp; done) | (simp; omega))) | (refine And.intro ?_ ?_; focus (first | rfl | decide | (simp; done) | (simp; omega) | omega))) <;> (try conv => whnf)))
    refine q0 p I.nd (fun m => ⟨I.rp m, fun r => ?_⟩) pl
    have hq : ∀ m ∈ q, m ∈ p := fun m hm => I.dn m (by rw [List.take_length]; exact hm)
    induction r with
    | base h => exact hq _ (I.fq _ h)
    | step _ hx ih =>
      obtain ⟨i, rfl, hi⟩ := (lev_nat ok).mp hx
      rcases I.cl _ ih i hi with h | h
      · exact h
      · exact hq _ h
end VC

set_option Elab.async false
set_option linter.all false
set_option maxRecDepth 100000
set_option maxHeartbeats 4000000
/-! N4: the law k03. -/
namespace VC
open PySem PySem.Spec PyProof.Rows L2
def sp_law0 : FSpec := fun ds S R E => S = [] ∧ sp_law ds S R E
theorem datd_lst {n : Nat} {xs : List D} (hl : xs.length ≤ 1000000) (h : ∀ d ∈ xs, datd d n = true) : datd (.lst xs) (n + 1) = true := by
  simp only [datd, decide_eq_true hl, datds_all h, Bool.and_self]
theorem okds_of {n : Nat} {xs : List D} (h : ∀ d ∈ xs, okd d n = true) : okds xs n = true := okds_all h
def flatS (S : Sto) : Prop := ∀ m ∈ S, M.flat m
theorem flat_nil : flatS [] := fun m h => by simp at h
theorem flat_but {n : Int} {r : Nat} {S S' : Sto} (h : flatS S) (b : But1 r S S') (d : Deck n r S') : flatS S' := fun m hm => by
  obtain ⟨j, hj, e⟩ := List.mem_iff_getElem.mp hm
  by_cases hr : j = r
  · subst hr
    obtain ⟨m', h1, x, y, z, e', _⟩ := d
    rw [List.getElem?_eq_getElem hj, e] at h1
    cases h1
    subst e'
    intro d hd
    simp at hd
    rcases hd with rfl | rfl | rfl <;> exact ⟨_, rfl⟩
  · have := b.2 j hr
    rw [List.getElem?_eq_getElem hj, e] at this
    exact h m (List.mem_of_getElem? this.symm)
theorem flat_snoc {n : Int} {S : Sto} {m : M} (h : flatS S) (d : DeckM n m) : flatS (S ++ [m]) := fun x hx => by
  rcases List.mem_append.mp hx with hx | hx
  · exact h x hx
  · rw [List.mem_singleton.mp hx]
    obtain ⟨a, b, c, rfl, _⟩ := d
    intro d hd
    simp at hd
    rcases hd with rfl | rfl | rfl <;> exact ⟨_, rfl⟩
theorem rch_runs {c : Chn} {F : List (List Mem)} : ∀ {xs : List Int} {m : List Mem}, Rch c F m → (∀ x ∈ xs, Lev c.top x) → Rch c F (runs c.stages m xs).2
  | [], _, h, _ => h
  | x :: xs, m, h, hx => rch_runs (xs := xs) (h.step (hx x (List.mem_cons_self ..))) fun y hy => hx y (List.mem_cons_of_mem _ hy)
theorem dat_srt (l : List (List Mem)) (hl : l.length ≤ 100000) (h : ∀ m ∈ l, m.length ≤ 1000000) : datd (.lst (srtD (l.map memsT))) 8 = true :=
  datd_mono _ 3 8 (datd_lst (by rw [srtD_len, List.length_map]; omega) fun d hd => by
    obtain ⟨m, hm, rfl⟩ := List.mem_map.mp (srtD_mem.mp hd)
    exact dat_mems m (h m hm)) (by decide)
theorem ok_srt (l : List (List Mem)) : okd (.lst (srtD (l.map memsT))) 3 = true := by
  simp only [okd]
  exact okds_of fun d hd => by
    obtain ⟨m, hm, rfl⟩ := List.mem_map.mp (srtD_mem.mp hd)
    exact mems_ok m
theorem any_mem {xs : List D} {d : D} {n : Nat} (h : d ∈ xs) (hd : datd d n = true) : (xs.any fun z => D.eqv z d) = true := List.any_eq_true.mpr ⟨d, h, eqv_refl d n hd⟩
/-- a written table -/
def tabChk (c : Chn) (o : List (List Mem)) : Bool := decide (o[0]? = some c.first) && decide o.Nodup && (o.all fun m => (List.range c.lev).all fun i => decide ((c.go m i).2 ∈ o)) && (List.range o.length).all fun j => decide (j = 0) || (List.range j).any fun k => (List.range c.lev).any fun i => match o[k]?, o[j]? with
  | some a, some b => decide ((c.go a i).2 = b)
  | _, _ => false
theorem tab_of {c : Chn} (ok : c.Ok) {o : List (List Mem)} (h : tabChk c o = true) : Tab c [c.first] o := by
  simp only [tabChk, Bool.and_eq_true, decide_eq_true_eq, List.all_eq_true, List.mem_range] at h
  obtain ⟨⟨⟨h0, hn⟩, hc⟩, hr⟩ := h
  have key : ∀ n j : Nat, j ≤ n → ∀ m, o[j]? = some m → Rch c [c.first] m := by
    intro n
    induction n with
    | zero =>
      intro j hj m e
      have : j = 0 := by omega
      subst this
      rw [h0] at e; cases e
      exact .base (by simp)
    | succ n ih =>
      intro j hj m e
      by_cases hjn : j ≤ n
      · exact ih j hjn m e
      · have hl := (List.getElem?_eq_some_iff.mp e).1
        have := hr j hl
        simp only [Bool.or_eq_true, decide_eq_true_eq, List.any_eq_true, List.mem_range] at this
        rcases this with rfl | ⟨k, hk, i, hi, z⟩
        · omega
        · rw [e] at z
          split at z
          · rename_i a b ea eb
            cases eb
            rw [← of_decide_eq_true z]
            exact .step (ih k (by omega) a ea) ((lev_nat ok).mpr ⟨i, rfl, hi⟩)
          · cases z
  refine ⟨hn, fun m hm => ?_, fun f r e => ?_, fun m hm x hx => ?_, fun m hm => ?_⟩
  · rw [List.mem_singleton.mp hm]; exact List.mem_of_getElem? h0
  · cases e; exact h0
  · obtain ⟨i, rfl, hi⟩ := (lev_nat ok).mp hx
    exact hc m hm i hi
  · obtain ⟨j, hj, e⟩ := List.mem_iff_getElem.mp hm
    exact key j j (Nat.le_refl _) m (by rw [List.getElem?_eq_getElem hj, e])
theorem srtD_sorted {ds : List D} (h : ds.Pairwise fun a b => srtLe a b = true) : srtD ds = ds := by unfold srtD; exact List.mergeSort_of_pairwise h
theorem vc_law_k03 (ds S R) (h : sp_law0 ds S R (fun _ _ => False)) : wf_law_k03 sp_states sp_state sp__law_levels (sp__law_same 8) sp__law_table sp__law_first sp__law_chain sp__law_pick sp__law_deck (ENDS R) (env0 7 ds) S := by
  obtain ⟨rfl, ns, rfl, hn, q⟩ := h
  ((try conv => whnf) <;> repeat ((first | (refine Ite.mt ?_ ?_; focus (first | rfl | (simp; done) | (simp; omega))) | (refine Ite.mf ?_ ?_; focus (first | rfl | (simp; done) | (simp; omega))) | (refine And.intro ?_ ?_; focus (first | rfl | decide | (simp; done) | (simp; omega) | omega))) <;> (try conv => whnf)))
  refine forW_rng (fun i e s => ∃ t1 t2 t3 t4 t5 t6 : Option T, e = [some (.val (.kst (ns.map D.int))), t1, t2, t3, t4, t5, t6] ∧ flatS s) ?_ ?_ ⟨_, _, _, _, _, _, rfl, flat_nil⟩
  · rintro e s ⟨t1, t2, t3, t4, t5, t6, rfl, _⟩
    have ok : Chn.Ok ⟨2, 1, [.hold 1]⟩ := ⟨by decide, by decide, by decide, by decide, by decide, fun s hs => by simp at hs; subst hs; exact ⟨by decide, by decide⟩, by decide⟩
    have tb := tab_of (c := ⟨2, 1, [.hold 1]⟩) ok (o := [[.two 1 0], [.two 0 1], [.two 2 1], [.two 0 0], [.two 2 0], [.two 1 1]]) (by decide +kernel)
    ((try conv => whnf) <;> repeat ((first | (refine Ite.mt ?_ ?_; focus (first | rfl | (simp; done) | (simp; omega))) | (refine Ite.mf ?_ ?_; focus (first | rfl | (simp; done) | (simp; omega))) | (refine And.intro ?_ ?_; focus (first | rfl | decide | (simp; done) | (simp; omega) | omega))) <;> (try conv => whnf)))
    refine ⟨⟨2, 1, [.hold 1]⟩, rfl, ok, fun o ho => ?_⟩
    rw [srt_states ok (first_fits ok) ho.toTab (p := [[.two 0 0], [.two 0 1], [.two 1 0], [.two 1 1], [.two 2 0], [.two 2 1]]) (by decide +kernel) (fun m => by rw [← tb.iff]; simp; grind), srtD_sorted (by decide +kernel)]
    ((try conv => whnf) <;> repeat ((first | (refine Ite.mt ?_ ?_; focus (first | rfl | (simp; done) | (simp; omega))) | (refine Ite.mf ?_ ?_; focus (first | rfl | (simp; done) | (simp; omega))) | (refine And.intro ?_ ?_; focus (first | rfl | decide | (simp; done) | (simp; omega) | omega))) <;> (try conv => whnf)))
    have k1 : okd (D.lst (List.map memsT [[.two 0 0], [.two 0 1], [.two 1 0], [.two 1 1], [.two 2 0], [.two 2 1]])) 3 = true := by decide +kernel
    have k2 : D.eqv (D.lst (List.map memsT [[.two 0 0], [.two 0 1], [.two 1 0], [.two 1 1], [.two 2 0], [.two 2 1]])) (D.lst (List.map memsT [[.two 0 0], [.two 0 1], [.two 1 0], [.two 1 1], [.two 2 0], [.two 2 1]])) = true := by decide +kernel
    refine ⟨⟨okd_cmp k1, okd_cmp k1⟩, ?_⟩
    exact ofbl (q _) k2
  · rintro i e s K hi ⟨t1, t2, t3, t4, t5, t6, rfl, fs⟩ hK
    ((try conv => whnf) <;> repeat ((first | (refine Ite.mt ?_ ?_; focus (first | rfl | (simp; done) | (simp; omega))) | (refine Ite.mf ?_ ?_; focus (first | rfl | (simp; done) | (simp; omega))) | (refine And.intro ?_ ?_; focus (first | rfl | decide | (simp; done) | (simp; omega) | omega))) <;> (try conv => whnf)))
    obtain ⟨x, hx⟩ := script_at ns 6 i hi
    refine ⟨th40 (by simp; omega), ?_⟩
    ((try conv => whnf) <;> repeat ((first | (refine Ite.mt ?_ ?_; focus (first | rfl | (simp; done) | (simp; omega))) | (refine Ite.mf ?_ ?_; focus (first | rfl | (simp; done) | (simp; omega))) | (refine And.intro ?_ ?_; focus (first | rfl | decide | (simp; done) | (simp; omega) | omega))) <;> (try conv => whnf)))
    rw [hx]
    ((try conv => whnf) <;> repeat ((first | (refine Ite.mt ?_ ?_; focus (first | rfl | (simp; done) | (simp; omega))) | (refine Ite.mf ?_ ?_; focus (first | rfl | (simp; done) | (simp; omega))) | (refine And.intro ?_ ?_; focus (first | rfl | decide | (simp; done) | (simp; omega) | omega))) <;> (try conv => whnf)))
    refine ⟨x, _, rfl, by omega, fun m hm => ?_⟩
    ((try conv => whnf) <;> repeat ((first | (refine Ite.mt ?_ ?_; focus (first | rfl | (simp; done) | (simp; omega))) | (refine Ite.mf ?_ ?_; focus (first | rfl | (simp; done) | (simp; omega))) | (refine And.intro ?_ ?_; focus (first | rfl | decide | (simp; done) | (simp; omega) | omega))) <;> (try conv => whnf)))
    refine forW_rng (fun j e S => ∃ t3 t4 t5 t6 : Option T, e = [some (.val (.kst (ns.map D.int))), some (.val (.int (0 + (i : Int)))), some (.val (.ref s.length)), t3, t4, t5, t6] ∧ Deck (1000 * (j : Int) + 100) s.length S ∧ flatS S) ?_ ?_ ⟨_, _, _, _, rfl, ⟨m, by simp, by obtain ⟨a, b, c, e, h1, h2, h3, h4⟩ := hm; exact ⟨a, b, c, e, h1, h2, h3, by omega⟩⟩, flat_snoc fs hm⟩
    · rintro e S ⟨t3, t4, t5, t6, rfl, _, fs⟩
      ((try conv => whnf) <;> repeat ((first | (refine Ite.mt ?_ ?_; focus (first | rfl | (simp; done) | (simp; omega))) | (refine Ite.mf ?_ ?_; focus (first | rfl | (simp; done) | (simp; omega))) | (refine And.intro ?_ ?_; focus (first | rfl | decide | (simp; done) | (simp; omega) | omega))) <;> (try conv => whnf)))
      exact hK _ _ ⟨_, _, _, _, _, _, rfl, fs⟩
    · rintro j e S K2 hj ⟨t3, t4, t5, t6, rfl, dk, fs⟩ hK2
      ((try conv => whnf) <;> repeat ((first | (refine Ite.mt ?_ ?_; focus (first | rfl | (simp; done) | (simp; omega))) | (refine Ite.mf ?_ ?_; focus (first | rfl | (simp; done) | (simp; omega))) | (refine And.intro ?_ ?_; focus (first | rfl | decide | (simp; done) | (simp; omega) | omega))) <;> (try conv => whnf)))
      refine ⟨_, _, _, rfl, dk, by omega, by omega, by omega, fun u S1 u0 u1 d1 b1 => ?_⟩
      obtain ⟨z, hz, z1, z5⟩ : ∃ z : Int, atD [D.int 2, D.int 5] u = some (.int z) ∧ 1 ≤ z ∧ z ≤ 5 := by
        rcases (show u = 0 ∨ u = 1 by omega) with rfl | rfl
        · exact ⟨2, rfl, by decide, by decide⟩
        · exact ⟨5, rfl, by decide, by decide⟩
      have f1 := flat_but fs b1 d1
      (conv => whnf)
      rw [show atD _ u = some (.int z) from hz]
      ((try conv => whnf) <;> repeat ((first | (refine Ite.mt ?_ ?_; focus (first | rfl | (simp; done) | (simp; omega))) | (refine Ite.mf ?_ ?_; focus (first | rfl | (simp; done) | (simp; omega))) | (refine And.intro ?_ ?_; focus (first | rfl | decide | (simp; done) | (simp; omega) | omega))) <;> (try conv => whnf)))
      refine ⟨_, _, _, _, rfl, d1, by omega, by omega, by omega, by omega, by omega, fun c S2 ok _ _ d2 b2 => ?_⟩
      have f2 := flat_but f1 b2 d2
      have t1 := ok.t1
      have t5 := ok.t5
      ((try conv => whnf) <;> repeat ((first | (refine Ite.mt ?_ ?_; focus (first | rfl | (simp; done) | (simp; omega))) | (refine Ite.mf ?_ ?_; focus (first | rfl | (simp; done) | (simp; omega))) | (refine And.intro ?_ ?_; focus (first | rfl | decide | (simp; done) | (simp; omega) | omega))) <;> (try conv => whnf)))
      refine ⟨c, rfl, ok, ?_⟩
      ((try conv => whnf) <;> repeat ((first | (refine Ite.mt ?_ ?_; focus (first | rfl | (simp; done) | (simp; omega))) | (refine Ite.mf ?_ ?_; focus (first | rfl | (simp; done) | (simp; omega))) | (refine And.intro ?_ ?_; focus (first | rfl | decide | (simp; done) | (simp; omega) | omega))) <;> (try conv => whnf)))
      refine ⟨c, [c.first], rfl, ok, first_fits ok, by simp, fun p pn pi pl => ?_⟩
      have pf : ∀ m ∈ p, Fits c.top c.stages m := fun m hm => ((pi m).mp hm).fits ok (first_fits ok)
      have pm : ∀ m ∈ p, m.length ≤ 1000000 := fun m hm => by rw [(pf m hm).len]; have := ok.len; omega
      ((try conv => whnf) <;> repeat ((first | (refine Ite.mt ?_ ?_; focus (first | rfl | (simp; done) | (simp; omega))) | (refine Ite.mf ?_ ?_; focus (first | rfl | (simp; done) | (simp; omega))) | (refine And.intro ?_ ?_; focus (first | rfl | decide | (simp; done) | (simp; omega) | omega))) <;> (try conv => whnf)))
      refine ⟨srtOk_st pf pn (by omega), ?_⟩
      ((try conv => whnf) <;> repeat ((first | (refine Ite.mt ?_ ?_; focus (first | rfl | (simp; done) | (simp; omega))) | (refine Ite.mf ?_ ?_; focus (first | rfl | (simp; done) | (simp; omega))) | (refine And.intro ?_ ?_; focus (first | rfl | decide | (simp; done) | (simp; omega) | omega))) <;> (try conv => whnf)))
      refine ⟨c, rfl, ok, fun o ho => ?_⟩
      rw [srt_states ok (first_fits ok) ho.toTab pn pi]
      ((try conv => whnf) <;> repeat ((first | (refine Ite.mt ?_ ?_; focus (first | rfl | (simp; done) | (simp; omega))) | (refine Ite.mf ?_ ?_; focus (first | rfl | (simp; done) | (simp; omega))) | (refine And.intro ?_ ?_; focus (first | rfl | decide | (simp; done) | (simp; omega) | omega))) <;> (try conv => whnf)))
      refine ⟨_, rfl, dat_srt p (by omega) pm, ⟨rfl, f2, trivial⟩, ?_⟩
      ((try conv => whnf) <;> repeat ((first | (refine Ite.mt ?_ ?_; focus (first | rfl | (simp; done) | (simp; omega))) | (refine Ite.mf ?_ ?_; focus (first | rfl | (simp; done) | (simp; omega))) | (refine And.intro ?_ ?_; focus (first | rfl | decide | (simp; done) | (simp; omega) | omega))) <;> (try conv => whnf)))
      refine ⟨by rw [srtD_len, List.length_map]; omega, ?_⟩
      ((try conv => whnf) <;> repeat ((first | (refine Ite.mt ?_ ?_; focus (first | rfl | (simp; done) | (simp; omega))) | (refine Ite.mf ?_ ?_; focus (first | rfl | (simp; done) | (simp; omega))) | (refine And.intro ?_ ?_; focus (first | rfl | decide | (simp; done) | (simp; omega) | omega))) <;> (try conv => whnf)))
      refine ⟨c, rfl, ok, fun o ho => ?_⟩
      rw [srt_states ok (first_fits ok) ho.toTab pn pi]
      ((try conv => whnf) <;> repeat ((first | (refine Ite.mt ?_ ?_; focus (first | rfl | (simp; done) | (simp; omega))) | (refine Ite.mf ?_ ?_; focus (first | rfl | (simp; done) | (simp; omega))) | (refine And.intro ?_ ?_; focus (first | rfl | decide | (simp; done) | (simp; omega) | omega))) <;> (try conv => whnf)))
      refine ⟨_, rfl, dat_srt p (by omega) pm, ?_⟩
      ((try conv => whnf) <;> repeat ((first | (refine Ite.mt ?_ ?_; focus (first | rfl | (simp; done) | (simp; omega))) | (refine Ite.mf ?_ ?_; focus (first | rfl | (simp; done) | (simp; omega))) | (refine And.intro ?_ ?_; focus (first | rfl | decide | (simp; done) | (simp; omega) | omega))) <;> (try conv => whnf)))
      refine ⟨_, _, _, _, rfl, d2, by omega, by omega, t5, by omega, by omega, fun l S3 hl d3 b3 => ?_⟩
      have f3 := flat_but f2 b3 d3
      ((try conv => whnf) <;> repeat ((first | (refine Ite.mt ?_ ?_; focus (first | rfl | (simp; done) | (simp; omega))) | (refine Ite.mf ?_ ?_; focus (first | rfl | (simp; done) | (simp; omega))) | (refine And.intro ?_ ?_; focus (first | rfl | decide | (simp; done) | (simp; omega) | omega))) <;> (try conv => whnf)))
      refine ⟨c, l, rfl, ok, ⟨hl.1, by have := hl.2; omega⟩, ?_⟩
      have hr : Rch c [c.first] (runs c.stages c.first l).2 := rch_runs (.base (by simp)) hl.1
      ((try conv => whnf) <;> repeat ((first | (refine Ite.mt ?_ ?_; focus (first | rfl | (simp; done) | (simp; omega))) | (refine Ite.mf ?_ ?_; focus (first | rfl | (simp; done) | (simp; omega))) | (refine And.intro ?_ ?_; focus (first | rfl | decide | (simp; done) | (simp; omega) | omega))) <;> (try conv => whnf)))
      refine ⟨⟨okd_cmp (mems_ok _), okd_cmp (ok_srt p)⟩, ?_⟩
      (conv => whnf)
      refine Ite.mf (congrArg not (any_mem (n := 2) (srtD_mem.mpr (mems_in.mpr ((pi _).mpr hr))) (dat_mems _ (pm _ ((pi _).mpr hr))))) ?_
      ((try conv => whnf) <;> repeat ((first | (refine Ite.mt ?_ ?_; focus (first | rfl | (simp; done) | (simp; omega))) | (refine Ite.mf ?_ ?_; focus (first | rfl | (simp; done) | (simp; omega))) | (refine And.intro ?_ ?_; focus (first | rfl | decide | (simp; done) | (simp; omega) | omega))) <;> (try conv => whnf)))
      exact hK2 _ _ ⟨_, _, _, _, rfl, d3.mono (by push_cast; omega), f3⟩
theorem mo_with_place : MoF sp_with_place := by (intro ds S R R' E i; repeat (first | exact i _ _ | (refine Exists.imp fun _ => ?_) | (refine And.imp_right ?_) | (intro f x; refine (show _ → _ from ?_) (f x))))
theorem mo_table_from : MoF sp_table_from := by (intro ds S R R' E i; repeat (first | exact i _ _ | (refine Exists.imp fun _ => ?_) | (refine And.imp_right ?_) | (intro f x; refine (show _ → _ from ?_) (f x))))
theorem mo_rows_of : MoF sp_rows_of := by (intro ds S R R' E i; repeat (first | exact i _ _ | (refine Exists.imp fun _ => ?_) | (refine And.imp_right ?_) | (intro f x; refine (show _ → _ from ?_) (f x))))
theorem mo_states : MoF sp_states := by (intro ds S R R' E i; repeat (first | exact i _ _ | (refine Exists.imp fun _ => ?_) | (refine And.imp_right ?_) | (intro f x; refine (show _ → _ from ?_) (f x))))
theorem mo__law_table : MoF sp__law_table := by (intro ds S R R' E i; repeat (first | exact i _ _ | (refine Exists.imp fun _ => ?_) | (refine And.imp_right ?_) | (intro f x; refine (show _ → _ from ?_) (f x))))
end VC

set_option Elab.async false
set_option linter.all false
set_option maxRecDepth 100000
set_option maxHeartbeats 4000000
/-! P1: plain laws of machines given by tables: words, their numbers, how long a word must be to part. -/
namespace VC
/-! ### words and their numbers -/
def Wd (L : Nat) (w : List Nat) : Prop := ∀ x ∈ w, x < L
def code (L : Nat) (w : List Nat) : Nat := w.foldl (fun a x => L * a + x + 1) 0
theorem code_nil {L : Nat} : code L [] = 0 := rfl
theorem code_snoc {L x : Nat} {w : List Nat} : code L (w ++ [x]) = L * code L w + x + 1 := by simp [code]
theorem Wd.nil {L : Nat} : Wd L [] := fun x h => by simp at h
theorem Wd.snoc {L x : Nat} {w : List Nat} : Wd L (w ++ [x]) ↔ Wd L w ∧ x < L :=
  ⟨fun h => ⟨fun y hy => h y (List.mem_append_left _ hy), h x (by simp)⟩, fun ⟨h, hx⟩ y hy => by
    rcases List.mem_append.mp hy with hy | hy
    · exact h y hy
    · rw [List.mem_singleton.mp hy]; exact hx⟩
theorem Wd.cons {L x : Nat} {w : List Nat} : Wd L (x :: w) ↔ x < L ∧ Wd L w :=
  ⟨fun h => ⟨h x (List.mem_cons_self ..), fun y hy => h y (List.mem_cons_of_mem _ hy)⟩, fun ⟨hx, h⟩ y hy => by
    rcases List.mem_cons.mp hy with rfl | hy
    · exact hx
    · exact h y hy⟩
theorem snoc_cases {α : Type} (w : List α) : w = [] ∨ ∃ v x, w = v ++ [x] := by
  cases h : w.reverse with
  | nil => exact .inl (by simpa using h)
  | cons x v => exact .inr ⟨v.reverse, x, by have := congrArg List.reverse h; simpa using this⟩
theorem snoc_ind {α : Type} {p : List α → Prop} (h0 : p []) (h1 : ∀ w x, p w → p (w ++ [x])) : ∀ w, p w := by
  intro w
  have : ∀ n (w : List α), w.length = n → p w := by
    intro n
    induction n with
    | zero => intro w e; rw [List.length_eq_zero_iff.mp e]; exact h0
    | succ n ih =>
      intro w e
      rcases snoc_cases w with rfl | ⟨v, x, rfl⟩
      · exact h0
      · exact h1 v x (ih v (by simpa using e))
  exact this _ w rfl
theorem mul_split {L a b x y : Nat} (hx : x < L) (hy : y < L) (h : L * a + x = L * b + y) : a = b ∧ x = y := by
  have hL : 0 < L := by omega
  have h1 : (L * a + x) / L = a := by rw [Nat.mul_add_div hL, Nat.div_eq_of_lt hx]; rfl
  have h2 : (L * b + y) / L = b := by rw [Nat.mul_add_div hL, Nat.div_eq_of_lt hy]; rfl
  have e : a = b := by rw [← h1, ← h2, h]
  subst e
  exact ⟨rfl, by omega⟩
theorem code_inj {L : Nat} : ∀ {w v : List Nat}, Wd L w → Wd L v → code L w = code L v → w = v := by
  intro w
  refine snoc_ind (p := fun w => ∀ {v : List Nat}, Wd L w → Wd L v → code L w = code L v → w = v) ?_ ?_ w
  · intro v _ _ e
    rcases snoc_cases v with rfl | ⟨u, x, rfl⟩
    · rfl
    · rw [code_snoc, code_nil] at e; omega
  · intro w x ih v hw hv e
    rcases snoc_cases v with rfl | ⟨u, y, rfl⟩
    · rw [code_snoc, code_nil] at e; omega
    · rw [code_snoc, code_snoc] at e
      rw [Wd.snoc] at hw hv
      obtain ⟨h1, h2⟩ := mul_split hw.2 hv.2 (show L * code L w + x = L * code L u + y by omega)
      rw [ih hw.1 hv.1 h1, h2]
/-- the smallest number of a length -/
def cmin (L : Nat) : Nat → Nat
  | 0 => 0
  | n + 1 => L * cmin L n + 1
theorem cmin_mono {L : Nat} (hL : 0 < L) (n : Nat) : cmin L n < cmin L (n + 1) := by
  induction n with
  | zero => simp [cmin]
  | succ n ih =>
    have : L * (cmin L n + 1) ≤ L * cmin L (n + 1) := Nat.mul_le_mul_left L ih
    rw [Nat.mul_add] at this
    show L * cmin L n + 1 < L * cmin L (n + 1) + 1
    omega
theorem cmin_le {L : Nat} (hL : 0 < L) {m n : Nat} (h : m ≤ n) : cmin L m ≤ cmin L n := by
  induction h with
  | refl => exact Nat.le_refl _
  | step _ ih => exact Nat.le_trans ih (Nat.le_of_lt (cmin_mono hL _))
theorem code_bounds {L : Nat} : ∀ {w : List Nat}, Wd L w → cmin L w.length ≤ code L w ∧ code L w < cmin L (w.length + 1) := by
  intro w
  refine snoc_ind (p := fun w => Wd L w → cmin L w.length ≤ code L w ∧ code L w < cmin L (w.length + 1)) (fun _ => by simp [cmin, code]) (fun w x ih h => ?_) w
  rw [Wd.snoc] at h
  obtain ⟨h1, h2⟩ := ih h.1
  rw [code_snoc, List.length_append, List.length_singleton]
  have k1 : L * cmin L w.length ≤ L * code L w := Nat.mul_le_mul_left L h1
  have k2 : L * (code L w + 1) ≤ L * cmin L (w.length + 1) := Nat.mul_le_mul_left L h2
  rw [Nat.mul_add] at k2
  have hx := h.2
  show L * cmin L w.length + 1 ≤ _ ∧ _ < L * cmin L (w.length + 1) + 1
  omega
theorem code_len {L : Nat} (hL : 0 < L) {w v : List Nat} (hw : Wd L w) (hv : Wd L v) (h : w.length < v.length) : code L w < code L v :=
  Nat.lt_of_lt_of_le (code_bounds hw).2 (Nat.le_trans (cmin_le hL h) (code_bounds hv).1)
theorem code_mono {L a b x : Nat} (h : a ≤ b) : L * a + x + 1 ≤ L * b + x + 1 := by
  have := Nat.mul_le_mul_left L h
  omega
/-! ### machines -/
abbrev Mc := Nat → Nat → Int × Nat
def mout (g : Mc) (i : Nat) : List Nat → List Int
  | [] => []
  | x :: w => (g i x).1 :: mout g (g i x).2 w
def mend (g : Mc) (i : Nat) : List Nat → Nat
  | [] => i
  | x :: w => mend g (g i x).2 w
theorem mout_app (g : Mc) : ∀ (w v : List Nat) (i : Nat), mout g i (w ++ v) = mout g i w ++ mout g (mend g i w) v
  | [], _, _ => rfl
  | x :: w, v, i => by simp [mout, mend, mout_app g w v]
theorem mend_app (g : Mc) : ∀ (w v : List Nat) (i : Nat), mend g i (w ++ v) = mend g (mend g i w) v
  | [], _, _ => rfl
  | x :: w, v, i => by simp [mend, mend_app g w v]
theorem mout_len (g : Mc) : ∀ (w : List Nat) (i : Nat), (mout g i w).length = w.length
  | [], _ => rfl
  | x :: w, i => by simp [mout, mout_len g w]
def Clo1 (g : Mc) (n L : Nat) : Prop := ∀ i x, i < n → x < L → (g i x).2 < n
theorem mend_lt {g : Mc} {n L : Nat} (h : Clo1 g n L) : ∀ {w : List Nat} {i : Nat}, i < n → Wd L w → mend g i w < n
  | [], _, hi, _ => hi
  | x :: w, i, hi, hw => by
    rw [Wd.cons] at hw
    exact mend_lt h (w := w) (h i x hi hw.1) hw.2
/-- both tell the same to w -/
def Same (g g' : Mc) (i j : Nat) (w : List Nat) : Prop := mout g i w = mout g' j w
theorem same_snoc {g g' : Mc} {i j x : Nat} {w : List Nat} : Same g g' i j (w ++ [x]) ↔ Same g g' i j w ∧ (g (mend g i w) x).1 = (g' (mend g' j w) x).1 := by
  unfold Same
  rw [mout_app, mout_app]
  constructor
  · intro h
    obtain ⟨h1, h2⟩ := List.append_inj h (by rw [mout_len, mout_len])
    exact ⟨h1, by simpa [mout] using h2⟩
  · rintro ⟨h1, h2⟩
    rw [h1]; simp [mout, h2]
/-- w parts, and none with a smaller number does -/
structure Least (g g' : Mc) (L i j : Nat) (w : List Nat) : Prop where
  wd : Wd L w
  ne : ¬ Same g g' i j w
  lt : ∀ v, Wd L v → code L v < code L w → Same g g' i j v
theorem Least.eq {g g' : Mc} {L i j : Nat} {w v : List Nat} (h : Least g g' L i j w) (k : Least g g' L i j v) : w = v := by
  refine code_inj h.wd k.wd ?_
  rcases Nat.lt_trichotomy (code L w) (code L v) with q | q | q
  · exact (h.ne (k.lt _ h.wd q)).elim
  · exact q
  · exact (k.ne (h.lt _ k.wd q)).elim
/-! ### how long a word must be -/
theorem pw_sym {α : Type} {R : α → α → Prop} (sy : ∀ a b, R a b → R b a) : ∀ {l : List α} {a b : α}, l.Pairwise R → a ∈ l → b ∈ l → a ≠ b → R a b
  | [], _, _, _, h, _, _ => by simp at h
  | c :: l, a, b, p, ha, hb, ne => by
    rw [List.pairwise_cons] at p
    rcases List.mem_cons.mp ha with e1 | k1 <;> rcases List.mem_cons.mp hb with e2 | k2
    · exact (ne (e1.trans e2.symm)).elim
    · rw [e1]; exact p.1 _ k2
    · rw [e2]; exact sy _ _ (p.1 _ k1)
    · exact pw_sym sy p.2 k1 k2 ne
section
variable {σ : Type} [DecidableEq σ] (go : σ → Nat → Int × σ) (L : Nat)
def MEq : Nat → σ → σ → Prop
  | 0, _, _ => True
  | j + 1, p, q => ∀ x, x < L → (go p x).1 = (go q x).1 ∧ MEq j (go p x).2 (go q x).2
variable {go L}
theorem MEq.rfl : ∀ {j : Nat} {p : σ}, MEq go L j p p
  | 0, _ => trivial
  | _ + 1, _ => fun _ _ => ⟨by trivial, MEq.rfl⟩
theorem MEq.symm : ∀ {j : Nat} {p q : σ}, MEq go L j p q → MEq go L j q p
  | 0, _, _, _ => trivial
  | _ + 1, _, _, h => fun x hx => ⟨(h x hx).1.symm, (h x hx).2.symm⟩
theorem MEq.trans : ∀ {j : Nat} {p q r : σ}, MEq go L j p q → MEq go L j q r → MEq go L j p r
  | 0, _, _, _, _, _ => trivial
  | _ + 1, _, _, _, h, k => fun x hx => ⟨(h x hx).1.trans (k x hx).1, (h x hx).2.trans (k x hx).2⟩
theorem MEq.down : ∀ {j : Nat} {p q : σ}, MEq go L (j + 1) p q → MEq go L j p q
  | 0, _, _, _ => trivial
  | _ + 1, _, _, h => fun x hx => ⟨(h x hx).1, (h x hx).2.down⟩
theorem moore_list {S : List σ} (cl : ∀ s ∈ S, ∀ x, x < L → (go s x).2 ∈ S) : ∀ j : Nat, (∃ p ∈ S, ∃ q ∈ S, MEq go L j p q ∧ ¬ MEq go L (j + 1) p q) →
    ∃ l : List σ, l.length = j + 2 ∧ (∀ s ∈ l, s ∈ S) ∧ l.Pairwise fun a b => ¬ MEq go L (j + 1) a b
  | 0, ⟨p, hp, q, hq, _, h⟩ => ⟨[p, q], rfl, fun s hs => by simp at hs; rcases hs with rfl | rfl <;> assumption, by simpa using h⟩
  | j + 1, ⟨p, hp, q, hq, h1, h2⟩ => by
    have prev : ∃ p ∈ S, ∃ q ∈ S, MEq go L j p q ∧ ¬ MEq go L (j + 1) p q := by
      refine Classical.byContradiction fun no => h2 fun x hx => ⟨(h1 x hx).1, ?_⟩
      refine Classical.byContradiction fun no2 => no ⟨_, cl p hp x hx, _, cl q hq x hx, (h1 x hx).2, no2⟩
    obtain ⟨l, hl, hs, hpw⟩ := moore_list cl j prev
    have up : ∀ a b : σ, ¬ MEq go L (j + 1) a b → ¬ MEq go L (j + 2) a b := fun a b h k => h k.down
    have add : ∀ r ∈ S, (∀ a ∈ l, ¬ MEq go L (j + 2) a r) → ∃ l : List σ, l.length = j + 1 + 2 ∧ (∀ s ∈ l, s ∈ S) ∧ l.Pairwise fun a b => ¬ MEq go L (j + 1 + 1) a b := fun r hr hh =>
      ⟨l ++ [r], by simp [hl], fun s h => by
        rcases List.mem_append.mp h with h | h
        · exact hs s h
        · rw [List.mem_singleton.mp h]; exact hr, by
        rw [List.pairwise_append]
        exact ⟨hpw.imp fun h => up _ _ h, List.pairwise_singleton .., fun a ha b hb => by rw [List.mem_singleton.mp hb]; exact hh a ha⟩⟩
    by_cases hx : ∃ a ∈ l, MEq go L (j + 1) a p
    · obtain ⟨a, ha, ap⟩ := hx
      have other : ∀ r, MEq go L (j + 1) a r → ¬ MEq go L (j + 2) a r → ∀ b ∈ l, ¬ MEq go L (j + 2) b r := fun r ar nr b hb br => by
        by_cases e : b = a
        · subst e; exact nr br
        · have ba : MEq go L (j + 1) b a := br.down.trans ar.symm
          have sy : ∀ x ∈ l, ∀ y ∈ l, x ≠ y → ¬ MEq go L (j + 1) x y := by
            exact fun x hx y hy hne => pw_sym (fun a b h k => h k.symm) hpw hx hy hne
          exact sy b hb a ha e ba
      by_cases np : MEq go L (j + 2) a p
      · refine add q hq (other q (ap.trans h1) fun k => h2 (np.symm.trans k))
      · exact add p hp (other p ap np)
    · exact add p hp fun a ha k => hx ⟨a, ha, k.down⟩
theorem moore {S : List σ} (cl : ∀ s ∈ S, ∀ x, x < L → (go s x).2 ∈ S) {j : Nat} {p q : σ} (hp : p ∈ S) (hq : q ∈ S) (h1 : MEq go L j p q) (h2 : ¬ MEq go L (j + 1) p q) : j + 2 ≤ S.length := by
  obtain ⟨l, hl, hs, hpw⟩ := moore_list cl j ⟨p, hp, q, hq, h1, h2⟩
  rw [← hl]
  exact nodup_le (List.Pairwise.imp (S := fun a b => a ≠ b) (fun {a b} h e => by subst e; exact h MEq.rfl) hpw) hs
end
def go2 (g g' : Mc) : Nat ⊕ Nat → Nat → Int × (Nat ⊕ Nat)
  | .inl i, x => ((g i x).1, .inl (g i x).2)
  | .inr i, x => ((g' i x).1, .inr (g' i x).2)
theorem meq_same {g g' : Mc} {L : Nat} : ∀ {j a b : Nat}, MEq (go2 g g') L j (.inl a) (.inr b) ↔ ∀ w, Wd L w → w.length ≤ j → Same g g' a b w
  | 0, a, b => ⟨fun _ w _ h => by rw [List.length_eq_zero_iff.mp (Nat.le_zero.mp h)]; rfl, fun _ => trivial⟩
  | j + 1, a, b => by
    constructor
    · intro h w hw hl
      cases w with
      | nil => rfl
      | cons x w =>
        rw [Wd.cons] at hw
        obtain ⟨h1, h2⟩ := h x hw.1
        have := (meq_same (j := j) (a := (g a x).2) (b := (g' b x).2)).mp h2 w hw.2 (by simpa using hl)
        unfold Same at this ⊢
        simp only [mout]
        exact congr (congrArg _ h1) this
    · intro h x hx
      refine ⟨?_, (meq_same (j := j) (a := (g a x).2) (b := (g' b x).2)).mpr fun w hw hl => ?_⟩
      · have := h [x] (Wd.cons.mpr ⟨hx, Wd.nil⟩) (by simp)
        unfold Same at this
        simp only [mout, List.cons.injEq, and_true] at this
        exact this
      · have := h (x :: w) (Wd.cons.mpr ⟨hx, hw⟩) (by simpa using hl)
        unfold Same at this ⊢
        simp only [mout, List.cons.injEq] at this
        exact this.2
/-- a least word is no longer than both machines' states less one -/
theorem least_len {g g' : Mc} {L n n' a b : Nat} (hL : 0 < L) (c : Clo1 g n L) (c' : Clo1 g' n' L) (ha : a < n) (hb : b < n') {w : List Nat} (h : Least g g' L a b w) : w.length + 1 ≤ n + n' := by
  have h0 : w ≠ [] := fun e => h.ne (by rw [e]; rfl)
  obtain ⟨k, hk⟩ : ∃ k, w.length = k + 1 := ⟨w.length - 1, by have := List.length_pos_iff.mpr h0; omega⟩
  have := moore (go := go2 g g') (L := L) (S := (List.range n).map Sum.inl ++ (List.range n').map Sum.inr) (fun s hs x hx => by
    rcases List.mem_append.mp hs with hs | hs <;> obtain ⟨i, hi, rfl⟩ := List.mem_map.mp hs <;> rw [List.mem_range] at hi
    · exact List.mem_append_left _ (List.mem_map.mpr ⟨_, List.mem_range.mpr (c i x hi hx), rfl⟩)
    · exact List.mem_append_right _ (List.mem_map.mpr ⟨_, List.mem_range.mpr (c' i x hi hx), rfl⟩))
    (j := k) (p := .inl a) (q := .inr b) (List.mem_append_left _ (List.mem_map.mpr ⟨a, List.mem_range.mpr ha, rfl⟩)) (List.mem_append_right _ (List.mem_map.mpr ⟨b, List.mem_range.mpr hb, rfl⟩))
    (meq_same.mpr fun v hv hl => h.lt v hv (code_len hL hv h.wd (by omega))) (fun k2 => h.ne (meq_same.mp k2 w h.wd (by omega)))
  simp at this
  omega
/-- if all words up to that length tell the same, all do: else there were a least one -/
theorem least_or {g g' : Mc} {L : Nat} {a b : Nat} : (∀ w, Wd L w → Same g g' a b w) ∨ ∃ w, Least g g' L a b w := by
  by_cases h : ∃ w, Wd L w ∧ ¬ Same g g' a b w
  · right
    obtain ⟨w, hw, hs⟩ := h
    have : ∀ n, ∀ w, code L w = n → Wd L w → ¬ Same g g' a b w → ∃ w, Least g g' L a b w := by
      intro n
      induction n using Nat.strongRecOn with
      | _ n ih =>
        intro w e hw hs
        by_cases h2 : ∃ v, Wd L v ∧ code L v < code L w ∧ ¬ Same g g' a b v
        · obtain ⟨v, v1, v2, v3⟩ := h2
          exact ih _ (by omega) v rfl v1 v3
        · exact ⟨w, hw, hs, fun v v1 v2 => Classical.byContradiction fun v3 => h2 ⟨v, v1, v2, v3⟩⟩
    exact this _ w rfl hw hs
  · left
    exact fun w hw => Classical.byContradiction fun hs => h ⟨w, hw, hs⟩
end VC

set_option Elab.async false
set_option linter.all false
set_option maxRecDepth 100000
set_option maxHeartbeats 4000000
/-! P2: the first word that parts two tables: breadth first. -/
namespace VC
open PySem PySem.Spec PyProof.Rows L2
theorem forW_nat {enc : Nat → D} {n : Nat} {G : WG} {W : WS} {D0 : WEnds} (J : Nat → VEnv → Sto → Prop) (fin : ∀ e s, J n e s → D0.nx e s)
    (step : ∀ (i : Nat) e s (K : WEnd), i < n → J i e s → (∀ e s, J (i + 1) e s → K e s) → G (enc i) e s fun e s => W { D0 with nx := K, ct := K, bk := D0.nx } e s) {e : VEnv} {s : Sto} (h : J 0 e s) : forW G W D0 ((List.range n).map enc) e s := by
  refine forW_map (f := enc) (fun rem e s => ∃ i, i ≤ n ∧ rem = (List.range n).drop i ∧ J i e s) (fun e s ⟨i, hi, hr, h⟩ => ?_) (fun a as e s K ⟨i, hi, hr, h⟩ hK => ?_) ⟨0, Nat.zero_le _, rfl, h⟩
  · have : n ≤ i := by simpa using (List.drop_eq_nil_iff.mp hr.symm)
    have : i = n := by omega
    subst this
    exact fin _ _ h
  · have hl : i < n := by
      have := congrArg List.length hr
      simp at this; omega
    rw [List.drop_eq_getElem_cons (by simpa using hl)] at hr
    simp only [List.getElem_range, List.cons.injEq] at hr
    obtain ⟨rfl, rfl⟩ := hr
    exact step a e s K hl h fun e s h2 => hK e s ⟨a + 1, hl, rfl, h2⟩
theorem enumD_app : ∀ (a b : List D) (k : Nat), enumD k (a ++ b) = enumD k a ++ enumD (k + a.length) b
  | [], b, k => by simp [enumD]
  | x :: a, b, k => by simp [enumD, enumD_app a b, Nat.add_assoc, Nat.add_comm 1]
theorem enz_range (f h : Nat → D) (L : Nat) : enumD 0 (zipD ((List.range L).map f) ((List.range L).map h)) = (List.range L).map fun (x : Nat) => .tup [.int (x : Int), .tup [f x, h x]] := by
  induction L with
  | zero => rfl
  | succ L ih =>
    rw [List.range_succ, List.map_append, List.map_append, zipD_app (by simp), enumD_app, ih, List.map_append, zipD_len]
    simp [zipD, enumD]
/-! ### tables -/
def cellT (g : Mc) (i x : Nat) : D := .tup [.int (g i x).1, .int ((g i x).2 : Nat)]
def rowT (g : Mc) (L i : Nat) : D := .tup ((List.range L).map (cellT g i))
def tabD (g : Mc) (n L : Nat) : D := .tup ((List.range n).map (rowT g L))
def natsT (w : List Nat) : D := .tup (w.map fun (x : Nat) => .int (x : Int))
/-! ### what has been found -/
structure Ent where
  i : Nat
  j : Nat
  w : List Nat
  v : D
@[reducible] def prD (i j : Nat) : D := .tup [.int (i : Int), .int (j : Int)]
@[reducible] def Ent.k (e : Ent) : D := prD e.i e.j
def e00 : Ent := ⟨0, 0, [], .non⟩
def Lk (F : List Ent) : Prop := ∀ e ∈ F, (e.w = [] ∧ e.v = .non) ∨ ∃ e0 ∈ F, ∃ x : Nat, e.w = e0.w ++ [x] ∧ e.v = .tup [e0.k, .int (x : Int)]
structure Bfs (g g' : Mc) (L : Nat) (F : List Ent) : Prop where
  h0 : e00 ∈ F
  nd : (F.map fun e => (e.i, e.j)).Nodup
  ok : ∀ e ∈ F, Wd L e.w ∧ mend g 0 e.w = e.i ∧ mend g' 0 e.w = e.j ∧ Same g g' 0 0 e.w
  srt : F.Pairwise fun a b => code L a.w < code L b.w
  lk : Lk F
def Prc (g g' : Mc) (L : Nat) (F : List Ent) (e : Ent) (x : Nat) : Prop := (g e.i x).1 = (g' e.j x).1 ∧ ∃ f ∈ F, f.i = (g e.i x).2 ∧ f.j = (g' e.j x).2 ∧ code L f.w ≤ L * code L e.w + x + 1
def Dp (g g' : Mc) (L : Nat) (F : List Ent) (N : Nat) : Prop := ∀ f ∈ F, ∀ y, y < L → L * code L f.w + y + 1 ≤ N → Prc g g' L F f y
structure Up (g g' : Mc) (L : Nat) (F : List Ent) (k : Nat) : Prop where
  dp : ∀ N, (∀ e, F[k]? = some e → N ≤ L * code L e.w) → Dp g g' L F N
  bd : ∀ e0, F[k]? = some e0 → ∀ e ∈ F, code L e.w ≤ L * code L e0.w
section
variable {g g' : Mc} {L : Nat} {F : List Ent}
theorem Bfs.cov (B : Bfs g g' L F) {N : Nat} (D : Dp g g' L F N) : ∀ v, Wd L v → code L v ≤ N → Same g g' 0 0 v ∧ ∃ f ∈ F, mend g 0 v = f.i ∧ mend g' 0 v = f.j ∧ code L f.w ≤ code L v := by
  intro v
  refine snoc_ind (p := fun v => Wd L v → code L v ≤ N → Same g g' 0 0 v ∧ ∃ f ∈ F, mend g 0 v = f.i ∧ mend g' 0 v = f.j ∧ code L f.w ≤ code L v) ?_ ?_ v
  · intro _ _
    exact ⟨rfl, _, B.h0, rfl, rfl, Nat.le_refl _⟩
  · intro u y ih hw hc
    rw [Wd.snoc] at hw
    rw [code_snoc] at hc ⊢
    have hL : 0 < L := by have := hw.2; omega
    have hcu : code L u ≤ L * code L u := Nat.le_mul_of_pos_left _ hL
    obtain ⟨h1, f, hf, f1, f2, f3⟩ := ih hw.1 (by omega)
    have hm := code_mono (L := L) (x := y) f3
    obtain ⟨o, f', hf', p1, p2, p3⟩ := D f hf y hw.2 (by omega)
    refine ⟨same_snoc.mpr ⟨h1, by rw [f1, f2]; exact o⟩, f', hf', ?_, ?_, by omega⟩
    · rw [mend_app, f1]; exact p1.symm
    · rw [mend_app, f2]; exact p2.symm
theorem Bfs.inj (B : Bfs g g' L F) {e f : Ent} (he : e ∈ F) (hf : f ∈ F) (h : code L e.w = code L f.w) : e = f := by
  have := B.srt
  refine Classical.byContradiction fun ne => ?_
  have key : code L e.w < code L f.w ∨ code L f.w < code L e.w := pw_sym (R := fun a b : Ent => code L a.w < code L b.w ∨ code L b.w < code L a.w) (fun a b h => h.symm) (this.imp fun h => .inl h) he hf ne
  omega
theorem Bfs.start : Bfs g g' L [e00] := ⟨by simp, by simp, fun e he => by rw [List.mem_singleton.mp he]; exact ⟨Wd.nil, rfl, rfl, rfl⟩, by simp, fun e he => .inl (by rw [List.mem_singleton.mp he]; exact ⟨rfl, rfl⟩)⟩
theorem Up.start : Up g g' L [e00] 0 := ⟨fun N h f hf y hy hN => by
    have := h e00 rfl
    simp [e00, code] at this
    omega, fun e0 h0 e he => by
    rw [List.mem_singleton.mp he]; simp [e00, code]⟩
theorem edge_old (B : Bfs g g' L F) {e f : Ent} {x : Nat} (he : e ∈ F) (hx : x < L) (D : Dp g g' L F (L * code L e.w + x)) (b : ∀ d ∈ F, code L d.w ≤ L * code L e.w + x) (ho : (g e.i x).1 = (g' e.j x).1) (hf : f ∈ F) (f1 : f.i = (g e.i x).2) (f2 : f.j = (g' e.j x).2) :
    Dp g g' L F (L * code L e.w + (x + 1)) ∧ ∀ d ∈ F, code L d.w ≤ L * code L e.w + (x + 1) := by
  refine ⟨fun d hd y hy hN => ?_, fun d hd => by have := b d hd; omega⟩
  by_cases h : L * code L d.w + y + 1 ≤ L * code L e.w + x
  · exact D d hd y hy h
  · obtain ⟨h1, h2⟩ := mul_split hy hx (show L * code L d.w + y = L * code L e.w + x by omega)
    have := B.inj hd he h1
    subst this h2
    exact ⟨ho, f, hf, f1, f2, by have := b f hf; omega⟩
theorem edge_new (B : Bfs g g' L F) {e : Ent} {x : Nat} (he : e ∈ F) (hx : x < L) (D : Dp g g' L F (L * code L e.w + x)) (b : ∀ d ∈ F, code L d.w ≤ L * code L e.w + x) (ho : (g e.i x).1 = (g' e.j x).1) {a c : Nat} (ha : a = (g e.i x).2) (hc : c = (g' e.j x).2) (hn : (a, c) ∉ F.map fun e => (e.i, e.j)) {n : Ent} (en : n = ⟨a, c, e.w ++ [x], .tup [e.k, .int (x : Int)]⟩) :
    Bfs g g' L (F ++ [n]) ∧ Dp g g' L (F ++ [n]) (L * code L e.w + (x + 1)) ∧ ∀ d ∈ F ++ [n], code L d.w ≤ L * code L e.w + (x + 1) := by
  obtain ⟨e1, e2, e3, e4⟩ := B.ok e he
  have cn : code L n.w = L * code L e.w + x + 1 := by rw [en]; exact code_snoc
  have ni : n.i = (g e.i x).2 := by rw [en]; exact ha
  have nj : n.j = (g' e.j x).2 := by rw [en]; exact hc
  have nw : n.w = e.w ++ [x] := by rw [en]
  have mem : ∀ d ∈ F ++ [n], d ∈ F ∨ d = n := fun d hd => by
    rcases List.mem_append.mp hd with h | h
    · exact .inl h
    · exact .inr (List.mem_singleton.mp h)
  have le0 : code L e.w ≤ L * code L e.w := Nat.le_mul_of_pos_left _ (by omega)
  refine ⟨⟨List.mem_append_left _ B.h0, ?_, fun d hd => ?_, ?_, fun d hd => ?_⟩, fun d hd y hy hN => ?_, fun d hd => ?_⟩
  · rw [List.map_append]
    refine nodup_snoc B.nd ?_
    show ¬ (n.i, n.j) ∈ F.map fun e => (e.i, e.j)
    rw [ni, nj, ← ha, ← hc]; exact hn
  · rcases mem d hd with h | rfl
    · exact B.ok d h
    · rw [nw, ni, nj, Wd.snoc, mend_app, mend_app, e2, e3, same_snoc, e2, e3]
      exact ⟨⟨e1, hx⟩, rfl, rfl, e4, ho⟩
  · rw [List.pairwise_append]
    exact ⟨B.srt, by simp, fun d hd f hf => by rw [List.mem_singleton.mp hf, cn]; have := b d hd; omega⟩
  · rcases mem d hd with h | rfl
    · rcases B.lk d h with k | ⟨e0, k1, y, k2, k3⟩
      · exact .inl k
      · exact .inr ⟨e0, List.mem_append_left _ k1, y, k2, k3⟩
    · exact .inr ⟨e, List.mem_append_left _ he, x, nw, by rw [en]⟩
  · have up : Prc g g' L F d y → Prc g g' L (F ++ [n]) d y := fun ⟨h1, f, h2, h3⟩ => ⟨h1, f, List.mem_append_left _ h2, h3⟩
    rcases mem d hd with h | rfl
    · by_cases h2 : L * code L d.w + y + 1 ≤ L * code L e.w + x
      · exact up (D d h y hy h2)
      · obtain ⟨h1, h3⟩ := mul_split hy hx (show L * code L d.w + y = L * code L e.w + x by omega)
        have := B.inj h he h1
        subst this h3
        exact ⟨ho, n, by simp, ni, nj, by rw [cn]; exact Nat.le_refl _⟩
    · rw [cn] at hN
      have : L * code L e.w + x + 1 ≤ L * (L * code L e.w + x + 1) := Nat.le_mul_of_pos_left _ (by omega)
      omega
  · rcases mem d hd with h | rfl
    · have := b d h; omega
    · rw [cn]; omega
theorem pair_end (B : Bfs g g' L F) {e : Ent} {k : Nat} (he : F[k]? = some e) (D : Dp g g' L F (L * code L e.w + L)) (b : ∀ d ∈ F, code L d.w ≤ L * code L e.w + L) : Up g g' L F (k + 1) := by
  have hk := (List.getElem?_eq_some_iff.mp he).1
  have ek : F[k] = e := (List.getElem?_eq_some_iff.mp he).2
  have lt : ∀ i j (hi : i < F.length) (hj : j < F.length), i < j → code L F[i].w < code L F[j].w := fun i j hi hj h => List.pairwise_iff_getElem.mp B.srt i j hi hj h
  have le_of : ∀ f ∈ F, (∀ e0, F[k + 1]? = some e0 → code L f.w < code L e0.w) → code L f.w ≤ code L e.w := fun f hf h => by
    obtain ⟨j, hj, rfl⟩ := List.mem_iff_getElem.mp hf
    by_cases hjk : j < k
    · rw [← ek]; exact Nat.le_of_lt (lt j k hj hk hjk)
    · by_cases hjk2 : j = k
      · subst hjk2; rw [ek]; exact Nat.le_refl _
      · have hk1 : k + 1 < F.length := by omega
        have h1 := h _ (List.getElem?_eq_getElem hk1)
        by_cases h2 : j = k + 1
        · subst h2; omega
        · have := lt (k + 1) j hk1 hj (by omega); omega
  refine ⟨fun N h f hf y hy hN => ?_, fun e0 h0 d hd => ?_⟩
  · have : code L f.w ≤ code L e.w := le_of f hf fun e0 h0 => by
      have := h e0 h0
      refine Nat.lt_of_not_le fun hc => ?_
      have := Nat.mul_le_mul_left L hc
      omega
    refine D f hf y hy ?_
    have := Nat.mul_le_mul_left L this
    omega
  · have h1 : code L e.w + 1 ≤ code L e0.w := by
      have hk1 := (List.getElem?_eq_some_iff.mp h0).1
      have := lt k (k + 1) hk hk1 (Nat.lt_succ_self _)
      rw [ek, (List.getElem?_eq_some_iff.mp h0).2] at this
      exact this
    have := Nat.mul_le_mul_left L h1
    have := b d hd
    rw [Nat.mul_add] at *
    omega
theorem Bfs.none (B : Bfs g g' L F) (U : Up g g' L F F.length) : ∀ w, Wd L w → Same g g' 0 0 w := fun w hw =>
  (B.cov (U.dp (code L w) fun e he => by simp at he) w hw (Nat.le_refl _)).1
theorem Bfs.least (B : Bfs g g' L F) {e : Ent} {x : Nat} (he : e ∈ F) (hx : x < L) (D : Dp g g' L F (L * code L e.w + x)) (ho : ¬ (g e.i x).1 = (g' e.j x).1) : Least g g' L 0 0 (e.w ++ [x]) := by
  obtain ⟨e1, e2, e3, e4⟩ := B.ok e he
  refine ⟨Wd.snoc.mpr ⟨e1, hx⟩, fun h => ho ?_, fun v hv hc => (B.cov D v hv ?_).1⟩
  · have := (same_snoc.mp h).2
    rw [e2, e3] at this
    exact this
  · rw [code_snoc] at hc; omega
theorem Bfs.cnt (B : Bfs g g' L F) {n n' : Nat} (c : Clo1 g n L) (c' : Clo1 g' n' L) (hn : 0 < n) (hn' : 0 < n') : F.length ≤ n * n' := by
  have := nodup_le (m := (List.range n).flatMap fun i => (List.range n').map fun j => (i, j)) B.nd fun p hp => by
    obtain ⟨e, he, rfl⟩ := List.mem_map.mp hp
    obtain ⟨e1, e2, e3, _⟩ := B.ok e he
    have h1 := mend_lt c hn e1
    have h2 := mend_lt c' hn' e1
    rw [e2] at h1
    rw [e3] at h2
    exact List.mem_flatMap.mpr ⟨_, List.mem_range.mpr h1, List.mem_map.mpr ⟨_, List.mem_range.mpr h2, rfl⟩⟩
  simpa only [List.length_map, List.length_flatMap, List.length_range, List.map_const', List.sum_replicate_nat] using this
theorem Bfs.lt (B : Bfs g g' L F) {n n' : Nat} (c : Clo1 g n L) (c' : Clo1 g' n' L) (hn : 0 < n) (hn' : 0 < n') {e : Ent} (he : e ∈ F) : e.i < n ∧ e.j < n' := by
  obtain ⟨e1, e2, e3, _⟩ := B.ok e he
  have h1 := mend_lt c hn e1
  have h2 := mend_lt c' hn' e1
  rw [e2] at h1
  rw [e3] at h2
  exact ⟨h1, h2⟩
end
theorem Lk.pre {F : List Ent} (h : Lk F) : ∀ (n : Nat) (e : Ent), e ∈ F → e.w.length = n → ∀ m, m ≤ n → ∃ f ∈ F, f.w.length = m
  | 0, e, he, hl, m, hm => ⟨e, he, by omega⟩
  | n + 1, e, he, hl, m, hm => by
    by_cases hmn : m = n + 1
    · exact ⟨e, he, by omega⟩
    · rcases h e he with ⟨h1, _⟩ | ⟨e0, h1, x, h2, _⟩
      · rw [h1] at hl; simp at hl
      · exact Lk.pre h n e0 h1 (by rw [h2] at hl; simpa using hl) m (by omega)
theorem Lk.len {F : List Ent} (h : Lk F) {e : Ent} (he : e ∈ F) : e.w.length < F.length := by
  have := nodup_le (l := List.range (e.w.length + 1)) (m := F.map fun f => f.w.length) List.nodup_range fun m hm => by
    obtain ⟨f, h1, h2⟩ := h.pre _ e he rfl m (by rw [List.mem_range] at hm; omega)
    exact List.mem_map.mpr ⟨f, h1, h2⟩
  simp at this
  omega
/-! ### row_to -/
theorem pr_kok (i j : Nat) : kok (prD i j) 8 = true := by simp [kok, koks]
theorem pr_isT (F : List Ent) : ∀ q ∈ F.map Ent.k, q.isT = true := fun q hq => by obtain ⟨x, _, rfl⟩ := List.mem_map.mp hq; rfl
theorem pr_kinds (F : List Ent) (i j : Nat) : Kinds (F.map Ent.k) (prD i j) := .inl ⟨rfl, pr_isT F⟩
theorem k_in {F : List Ent} {i j : Nat} : prD i j ∈ F.map Ent.k ↔ (i, j) ∈ F.map fun e => (e.i, e.j) := by
  simp only [List.mem_map]
  constructor
  · rintro ⟨e, he, h⟩
    simp only [D.tup.injEq, List.cons.injEq, D.int.injEq, Int.natCast_inj, and_true] at h
    exact ⟨e, he, by rw [h.1, h.2]⟩
  · rintro ⟨e, he, h⟩
    simp only [Prod.mk.injEq] at h
    exact ⟨e, he, by show prD e.i e.j = _; rw [h.1, h.2]⟩
def sp_row_to : FSpec := fun ds S R _ => ∃ (F : List Ent) (e : Ent), ds = [.dct (F.map Ent.k) (F.map Ent.v), e.k] ∧ e ∈ F ∧ Lk F ∧ F.length ≤ 900000 ∧ R (.val (natsT e.w)) S
theorem vc_row_to (ds S R) (h : sp_row_to ds S R (fun _ _ => False)) : wf_row_to (ENDS R) (env0 4 ds) S := by
  obtain ⟨F, e, rfl, he, lk, hl, q⟩ := h
  have hle := lk.len he
  ((try conv => whnf) <;> repeat ((first | (refine Ite.mt ?_ ?_; focus (first | rfl | (simp; done) | (simp; omega))) | (refine Ite.mf ?_ ?_; focus (first | rfl | (simp; done) | (simp; omega))) | (refine And.intro ?_ ?_; focus (first | rfl | decide | (simp; done) | (simp; omega) | omega))) <;> (try conv => whnf)))
  refine ⟨fun m en s => ∃ (f : Ent) (r : List Nat) (t3 : Option T), en = [some (.val (.dct (F.map Ent.k) (F.map Ent.v))), some (.val f.k), some (.val (natsT r)), t3] ∧ s = S ∧ f ∈ F ∧ f.w ++ r = e.w ∧ m = f.w.length, ⟨_, e, [], none, rfl, rfl, he, List.append_nil _, rfl⟩, ?_⟩
  rintro m en s ⟨f, r, t3, rfl, rfl, hf, hw, rfl⟩
  obtain ⟨k, hk, ek⟩ := List.mem_iff_getElem.mp hf
  have g1 : (F.map Ent.k)[k]? = some f.k := by rw [List.getElem?_map, List.getElem?_eq_getElem hk, ek]; rfl
  have g2 : (F.map Ent.v)[k]? = some f.v := by rw [List.getElem?_map, List.getElem?_eq_getElem hk, ek]; rfl
  rcases lk f hf with ⟨w0, v0⟩ | ⟨e0, h0, x, w0, v0⟩
  · ((try conv => whnf) <;> repeat ((first | (refine Ite.mt ?_ ?_; focus (first | rfl | (simp; done) | (simp; omega))) | (refine Ite.mf ?_ ?_; focus (first | rfl | (simp; done) | (simp; omega))) | (refine And.intro ?_ ?_; focus (first | rfl | decide | (simp; done) | (simp; omega) | omega))) <;> (try conv => whnf)))
    refine ⟨⟨pr_kok _ _, pr_kinds F _ _⟩, k, _, g1, g2, ?_⟩
    rw [v0]
    ((try conv => whnf) <;> repeat ((first | (refine Ite.mt ?_ ?_; focus (first | rfl | (simp; done) | (simp; omega))) | (refine Ite.mf ?_ ?_; focus (first | rfl | (simp; done) | (simp; omega))) | (refine And.intro ?_ ?_; focus (first | rfl | decide | (simp; done) | (simp; omega) | omega))) <;> (try conv => whnf)))
    rw [w0, List.nil_append] at hw
    rw [hw]; exact q
  · ((try conv => whnf) <;> repeat ((first | (refine Ite.mt ?_ ?_; focus (first | rfl | (simp; done) | (simp; omega))) | (refine Ite.mf ?_ ?_; focus (first | rfl | (simp; done) | (simp; omega))) | (refine And.intro ?_ ?_; focus (first | rfl | decide | (simp; done) | (simp; omega) | omega))) <;> (try conv => whnf)))
    refine ⟨⟨pr_kok _ _, pr_kinds F _ _⟩, k, _, g1, g2, ?_⟩
    rw [v0]
    ((try conv => whnf) <;> repeat ((first | (refine Ite.mt ?_ ?_; focus (first | rfl | (simp; done) | (simp; omega))) | (refine Ite.mf ?_ ?_; focus (first | rfl | (simp; done) | (simp; omega))) | (refine And.intro ?_ ?_; focus (first | rfl | decide | (simp; done) | (simp; omega) | omega))) <;> (try conv => whnf)))
    refine ⟨⟨pr_kok _ _, pr_kinds F _ _⟩, k, _, g1, g2, ?_⟩
    rw [v0]
    ((try conv => whnf) <;> repeat ((first | (refine Ite.mt ?_ ?_; focus (first | rfl | (simp; done) | (simp; omega))) | (refine Ite.mf ?_ ?_; focus (first | rfl | (simp; done) | (simp; omega))) | (refine And.intro ?_ ?_; focus (first | rfl | decide | (simp; done) | (simp; omega) | omega))) <;> (try conv => whnf)))
    have : (f.w ++ r).length < F.length := by rw [hw]; exact hle
    refine ⟨th40 (by simp at this ⊢; omega), ?_⟩
    ((try conv => whnf) <;> repeat ((first | (refine Ite.mt ?_ ?_; focus (first | rfl | (simp; done) | (simp; omega))) | (refine Ite.mf ?_ ?_; focus (first | rfl | (simp; done) | (simp; omega))) | (refine And.intro ?_ ?_; focus (first | rfl | decide | (simp; done) | (simp; omega) | omega))) <;> (try conv => whnf)))
    exact ⟨e0.w.length, by rw [w0]; simp, e0, x :: r, _, rfl, rfl, h0, by rw [← hw, w0]; simp, rfl⟩
end VC

set_option Elab.async false
set_option linter.all false
set_option maxRecDepth 100000
set_option maxHeartbeats 4000000
/-! P3: parted by its W. -/
namespace VC
open PySem PySem.Spec PyProof.Rows L2
def sp_parted : FSpec := fun ds S R _ => ∃ (g g' : Mc) (n n' L : Nat), ds = [tabD g n L, tabD g' n' L] ∧ Clo1 g n L ∧ Clo1 g' n' L ∧ 0 < n ∧ 0 < n' ∧ 0 < L ∧ L ≤ 1000 ∧ n * n' ≤ 90000 ∧
  ((∀ w, Wd L w → Same g g' 0 0 w) → R (.val .non) S) ∧ (∀ w, Least g g' L 0 0 w → R (.val (natsT w)) S)
theorem ok_pr (i j : Nat) : okd (prD i j) 2 = true := by simp [okd, okds]
theorem ok_prs (F : List Ent) : okd (.lst (F.map Ent.k)) 3 = true := by
  simp only [okd]
  exact okds_of fun d hd => by obtain ⟨e, _, rfl⟩ := List.mem_map.mp hd; exact ok_pr _ _
theorem row_at {g : Mc} {n L i : Nat} (h : i < n) : ((List.range n).map (rowT g L))[i]? = some (rowT g L i) := by rw [List.getElem?_map, List.getElem?_range h]; rfl
theorem vc_parted (ds S R) (h : sp_parted ds S R (fun _ _ => False)) : wf_parted sp_row_to (ENDS R) (env0 10 ds) S := by
  obtain ⟨g, g', n, n', L, rfl, c, c', hn, hn', hL, hL1, hnn, q1, q2⟩ := h
  ((try conv => whnf) <;> repeat ((first | (refine Ite.mt ?_ ?_; focus (first | rfl | (simp; done) | (simp; omega))) | (refine Ite.mf ?_ ?_; focus (first | rfl | (simp; done) | (simp; omega))) | (refine And.intro ?_ ?_; focus (first | rfl | decide | (simp; done) | (simp; omega) | omega))) <;> (try conv => whnf)))
  refine ⟨fun m e s => ∃ (F : List Ent) (k : Nat) (t3 : T) (t4 t5 t6 t7 t8 t9 : Option T), e = [some (.val (tabD g n L)), some (.val (tabD g' n' L)), some (.own (.dct (F.map Ent.k) (F.map Ent.v))), some t3, t4, t5, t6, t7, t8, t9] ∧ s = S ∧ (t3 = .own (.lst ((F.drop k).map Ent.k)) ∨ t3 = .val (.lst ((F.drop k).map Ent.k))) ∧ Bfs g g' L F ∧ Up g g' L F k ∧ k ≤ F.length ∧ m + k = 500001,
    ⟨500001, [e00], 0, _, _, _, _, _, _, _, rfl, rfl, .inl rfl, Bfs.start, Up.start, Nat.zero_le _, rfl⟩, ?_⟩
  rintro m e s ⟨F, k, t3, t4, t5, t6, t7, t8, t9, rfl, rfl, ht, B, U, hk, hm⟩
  have fl := B.cnt c c' hn hn'
  obtain ⟨fr, hF⟩ : ∃ fr, fr = F.drop k := ⟨_, rfl⟩
  rw [← hF] at ht
  by_cases hfr : fr = []
  · subst hfr
    have : k = F.length := by have := List.drop_eq_nil_iff.mp hF.symm; omega
    subst this
    rcases ht with rfl | rfl <;> (
      ((try conv => whnf) <;> repeat ((first | (refine Ite.mt ?_ ?_; focus (first | rfl | (simp; done) | (simp; omega))) | (refine Ite.mf ?_ ?_; focus (first | rfl | (simp; done) | (simp; omega))) | (refine And.intro ?_ ?_; focus (first | rfl | decide | (simp; done) | (simp; omega) | omega))) <;> (try conv => whnf)))
      refine ⟨⟨okd_cmp (ok_prs []), okd_cmp (ok_prs [])⟩, ?_⟩
      ((try conv => whnf) <;> repeat ((first | (refine Ite.mt ?_ ?_; focus (first | rfl | (simp; done) | (simp; omega))) | (refine Ite.mf ?_ ?_; focus (first | rfl | (simp; done) | (simp; omega))) | (refine And.intro ?_ ?_; focus (first | rfl | decide | (simp; done) | (simp; omega) | omega))) <;> (try conv => whnf)))
      exact q1 (B.none U))
  · have hlt : k < F.length := Nat.lt_of_not_le fun h => hfr (by rw [hF]; exact List.drop_eq_nil_iff.mpr h)
    have ev : D.eqv (.lst (fr.map Ent.k)) (.lst []) = false := by
      cases fr with
      | nil => exact (hfr rfl).elim
      | cons a b => simp [D.eqv, D.eqvs]
    have hwd : k + fr.length = F.length := by rw [hF, List.length_drop]; omega
    rcases ht with rfl | rfl <;> (
      ((try conv => whnf) <;> repeat ((first | (refine Ite.mt ?_ ?_; focus (first | rfl | (simp; done) | (simp; omega))) | (refine Ite.mf ?_ ?_; focus (first | rfl | (simp; done) | (simp; omega))) | (refine And.intro ?_ ?_; focus (first | rfl | decide | (simp; done) | (simp; omega) | omega))) <;> (try conv => whnf)))
      refine ⟨⟨okd_cmp (ok_prs fr), okd_cmp (ok_prs [])⟩, ?_⟩
      (conv => whnf)
      refine Ite.mt (congrArg not ev) ?_
      ((try conv => whnf) <;> repeat ((first | (refine Ite.mt ?_ ?_; focus (first | rfl | (simp; done) | (simp; omega))) | (refine Ite.mf ?_ ?_; focus (first | rfl | (simp; done) | (simp; omega))) | (refine And.intro ?_ ?_; focus (first | rfl | decide | (simp; done) | (simp; omega) | omega))) <;> (try conv => whnf)))
      refine forW_map (f := Ent.k) (fun rem e s' => ∃ (nw : List Ent) (t5 t6 t7 t8 t9 : Option T), e = [some (.val (tabD g n L)), some (.val (tabD g' n' L)), some (.own (.dct ((F ++ nw).map Ent.k) ((F ++ nw).map Ent.v))), some (.val (.lst (fr.map Ent.k))), some (.own (.lst (nw.map Ent.k))), t5, t6, t7, t8, t9] ∧ s' = s ∧ (∃ k', k' ≤ F.length ∧ F.drop k' = rem ∧ Up g g' L (F ++ nw) k') ∧ Bfs g g' L (F ++ nw)) ?_ ?_ ⟨[], t5, t6, t7, t8, t9, by rw [List.append_nil]; rfl, rfl, ⟨k, hk, hF.symm, by rw [List.append_nil]; exact U⟩, by rw [List.append_nil]; exact B⟩
      · rintro e s' ⟨nw, t5, t6, t7, t8, t9, rfl, rfl, ⟨k', k1, k2, U'⟩, B'⟩
        have : k' = F.length := by have := List.drop_eq_nil_iff.mp k2; omega
        subst this
        have fl' := B'.cnt c c' hn hn'
        ((try conv => whnf) <;> repeat ((first | (refine Ite.mt ?_ ?_; focus (first | rfl | (simp; done) | (simp; omega))) | (refine Ite.mf ?_ ?_; focus (first | rfl | (simp; done) | (simp; omega))) | (refine And.intro ?_ ?_; focus (first | rfl | decide | (simp; done) | (simp; omega) | omega))) <;> (try conv => whnf)))
        refine ⟨m - (F.length - k), by omega, F ++ nw, F.length, _, _, _, _, _, _, _, rfl, rfl, .inr (by rw [List.drop_left]), B', U', by simp, by omega⟩
      · rintro a as e s' K ⟨nw, t5, t6, t7, t8, t9, rfl, rfl, ⟨k', k1, k2, U'⟩, B'⟩ hK
        have hk' : k' < F.length := Nat.lt_of_not_le fun h => by rw [List.drop_eq_nil_iff.mpr h] at k2; simp at k2
        rw [List.drop_eq_getElem_cons hk'] at k2
        obtain ⟨ea, k3⟩ := List.cons.inj k2
        have haF : a ∈ F := by rw [← ea]; exact List.getElem_mem hk'
        obtain ⟨ai, aj⟩ := B'.lt c c' hn hn' (List.mem_append_left nw haF)
        have ga : (F ++ nw)[k']? = some a := by rw [List.getElem?_append_left hk', List.getElem?_eq_getElem hk', ea]
        ((try conv => whnf) <;> repeat ((first | (refine Ite.mt ?_ ?_; focus (first | rfl | (simp; done) | (simp; omega))) | (refine Ite.mf ?_ ?_; focus (first | rfl | (simp; done) | (simp; omega))) | (refine And.intro ?_ ?_; focus (first | rfl | decide | (simp; done) | (simp; omega) | omega))) <;> (try conv => whnf)))
        rw [atD_nat (row_at ai)]
        ((try conv => whnf) <;> repeat ((first | (refine Ite.mt ?_ ?_; focus (first | rfl | (simp; done) | (simp; omega))) | (refine Ite.mf ?_ ?_; focus (first | rfl | (simp; done) | (simp; omega))) | (refine And.intro ?_ ?_; focus (first | rfl | decide | (simp; done) | (simp; omega) | omega))) <;> (try conv => whnf)))
        rw [atD_nat (row_at aj)]
        ((try conv => whnf) <;> repeat ((first | (refine Ite.mt ?_ ?_; focus (first | rfl | (simp; done) | (simp; omega))) | (refine Ite.mf ?_ ?_; focus (first | rfl | (simp; done) | (simp; omega))) | (refine And.intro ?_ ?_; focus (first | rfl | decide | (simp; done) | (simp; omega) | omega))) <;> (try conv => whnf)))
        rw [enz_range]
        refine forW_nat (fun x e s'' => ∃ (nw : List Ent) (t6 t7 t8 t9 : Option T), e = [some (.val (tabD g n L)), some (.val (tabD g' n' L)), some (.own (.dct ((F ++ nw).map Ent.k) ((F ++ nw).map Ent.v))), some (.val (.lst (fr.map Ent.k))), some (.own (.lst (nw.map Ent.k))), some (.val a.k), t6, t7, t8, t9] ∧ s'' = s' ∧ Bfs g g' L (F ++ nw) ∧ Dp g g' L (F ++ nw) (L * code L a.w + x) ∧ ∀ d ∈ F ++ nw, code L d.w ≤ L * code L a.w + x) ?_ ?_ ⟨nw, t6, t7, t8, t9, rfl, rfl, B', U'.dp _ fun e he => by rw [ga] at he; cases he; exact Nat.le_refl _, U'.bd _ ga⟩
        · rintro e s'' ⟨nw, t6, t7, t8, t9, rfl, rfl, B', D', b'⟩
          exact hK _ _ ⟨nw, _, _, _, _, _, rfl, rfl, ⟨k' + 1, hk', k3, pair_end B' (by rw [List.getElem?_append_left hk', List.getElem?_eq_getElem hk', ea]) D' b'⟩, B'⟩
        · rintro x e s'' K2 hx ⟨nw, t6, t7, t8, t9, rfl, rfl, B', D', b'⟩ hK2
          have haN : a ∈ F ++ nw := List.mem_append_left nw haF
          have fl' := B'.cnt c c' hn hn'
          have hlf := B'.lk.len haN
          ((try conv => whnf) <;> repeat ((first | (refine Ite.mt ?_ ?_; focus (first | rfl | (simp; done) | (simp; omega))) | (refine Ite.mf ?_ ?_; focus (first | rfl | (simp; done) | (simp; omega))) | (refine And.intro ?_ ?_; focus (first | rfl | decide | (simp; done) | (simp; omega) | omega))) <;> (try conv => whnf)))
          refine Ite.intro (fun hc => ?_) (fun hc => ?_)
          · ((try conv => whnf) <;> repeat ((first | (refine Ite.mt ?_ ?_; focus (first | rfl | (simp; done) | (simp; omega))) | (refine Ite.mf ?_ ?_; focus (first | rfl | (simp; done) | (simp; omega))) | (refine And.intro ?_ ?_; focus (first | rfl | decide | (simp; done) | (simp; omega) | omega))) <;> (try conv => whnf)))
            refine ⟨F ++ nw, a, rfl, haN, B'.lk, by omega, ?_⟩
            ((try conv => whnf) <;> repeat ((first | (refine Ite.mt ?_ ?_; focus (first | rfl | (simp; done) | (simp; omega))) | (refine Ite.mf ?_ ?_; focus (first | rfl | (simp; done) | (simp; omega))) | (refine And.intro ?_ ?_; focus (first | rfl | decide | (simp; done) | (simp; omega) | omega))) <;> (try conv => whnf)))
            refine ⟨th40 (by simp at hlf fl' ⊢; omega), ?_⟩
            ((try conv => whnf) <;> repeat ((first | (refine Ite.mt ?_ ?_; focus (first | rfl | (simp; done) | (simp; omega))) | (refine Ite.mf ?_ ?_; focus (first | rfl | (simp; done) | (simp; omega))) | (refine And.intro ?_ ?_; focus (first | rfl | decide | (simp; done) | (simp; omega) | omega))) <;> (try conv => whnf)))
            have f := q2 _ (B'.least haN hx D' (by simpa using hc))
            unfold natsT at f
            rw [List.map_append] at f
            exact f
          · have ho : (g a.i x).1 = (g' a.j x).1 := by simpa using hc
            ((try conv => whnf) <;> repeat ((first | (refine Ite.mt ?_ ?_; focus (first | rfl | (simp; done) | (simp; omega))) | (refine Ite.mf ?_ ?_; focus (first | rfl | (simp; done) | (simp; omega))) | (refine And.intro ?_ ?_; focus (first | rfl | decide | (simp; done) | (simp; omega) | omega))) <;> (try conv => whnf)))
            refine ⟨⟨pr_kok _ _, pr_kinds _ _ _, by simp⟩, fun b hb => ?_⟩
            have hb := hb.trans k_in
            cases b with
            | true =>
              obtain ⟨f, hf, fe⟩ := List.mem_map.mp (hb.mp rfl)
              simp only [Prod.mk.injEq] at fe
              obtain ⟨D2, b2⟩ := edge_old B' haN hx D' b' ho hf fe.1 fe.2
              ((try conv => whnf) <;> repeat ((first | (refine Ite.mt ?_ ?_; focus (first | rfl | (simp; done) | (simp; omega))) | (refine Ite.mf ?_ ?_; focus (first | rfl | (simp; done) | (simp; omega))) | (refine And.intro ?_ ?_; focus (first | rfl | decide | (simp; done) | (simp; omega) | omega))) <;> (try conv => whnf)))
              exact hK2 _ _ ⟨nw, _, _, _, _, rfl, rfl, B', D2, b2⟩
            | false =>
              have hni : ((g a.i x).2, (g' a.j x).2) ∉ (F ++ nw).map fun e => (e.i, e.j) := fun h => by simpa using hb.mpr h
              obtain ⟨B2, D2, b2⟩ := edge_new B' haN hx D' b' ho rfl rfl hni rfl
              have fl2 := B2.cnt c c' hn hn'
              ((try conv => whnf) <;> repeat ((first | (refine Ite.mt ?_ ?_; focus (first | rfl | (simp; done) | (simp; omega))) | (refine Ite.mf ?_ ?_; focus (first | rfl | (simp; done) | (simp; omega))) | (refine And.intro ?_ ?_; focus (first | rfl | decide | (simp; done) | (simp; omega) | omega))) <;> (try conv => whnf)))
              refine ⟨⟨rfl, pr_kok _ _, pr_kinds _ _ _, by simp; simp at fl2; omega⟩, .inr ⟨fun h => hni (k_in.mp h), ?_⟩⟩
              ((try conv => whnf) <;> repeat ((first | (refine Ite.mt ?_ ?_; focus (first | rfl | (simp; done) | (simp; omega))) | (refine Ite.mf ?_ ?_; focus (first | rfl | (simp; done) | (simp; omega))) | (refine And.intro ?_ ?_; focus (first | rfl | decide | (simp; done) | (simp; omega) | omega))) <;> (try conv => whnf)))
              refine ⟨by have e1 : (F ++ nw).length = F.length + nw.length := List.length_append; rw [List.length_map]; omega, ?_⟩
              rw [List.append_assoc] at B2 D2 b2
              refine hK2 _ _ ⟨nw ++ [⟨(g a.i x).2, (g' a.j x).2, a.w ++ [x], .tup [a.k, .int (x : Int)]⟩], some (.val (.int (x : Int))), some (.val (cellT g a.i x)), some (.val (cellT g' a.j x)), some (.val (prD (g a.i x).2 (g' a.j x).2)), ?_, rfl, B2, D2, b2⟩
              rw [← List.append_assoc, List.map_append (l₁ := F ++ nw), List.map_append (l₁ := F ++ nw), List.map_append (l₁ := nw)]
              rfl)
end VC

set_option Elab.async false
set_option linter.all false
set_option maxRecDepth 100000
set_option maxHeartbeats 4000000
/-! P4: chains' tables as machines; alike, parting_signal, bound. -/
namespace VC
open PySem PySem.Spec PyProof.Rows L2
/-! ### fewer states -/
theorem memsOf_cap {t : Int} {s : Stg} (h : s.Ok t) : (memsOf t s).length ≤ (3 * (t.toNat + 1)) ^ (if s.keep then 1 else 0) := by
  cases s with
  | slew u d => simp [memsOf, Stg.keep]; omega
  | clip l h => simp [memsOf, Stg.keep]
  | gate l h => simp [memsOf, Stg.keep]; omega
  | hold w =>
    obtain ⟨h1, h2⟩ := h
    have e2 : w.toNat + 1 ≤ 3 := by omega
    simp only [memsOf, List.length_flatMap, List.length_map, List.length_range, List.map_const', List.sum_replicate_nat, Stg.keep, if_true, Nat.pow_one]
    rw [Nat.mul_comm]
    exact Nat.mul_le_mul_right _ e2
theorem keeps_cons (s : Stg) (ss : List Stg) : keeps (s :: ss) = (if s.keep then 1 else 0) + keeps ss := by
  unfold keeps
  cases h : s.keep <;> simp [List.filter, h]; omega
theorem allMs_cap {t : Int} : ∀ {ss : List Stg}, (∀ s ∈ ss, s.Ok t) → (allMs t ss).length ≤ (3 * (t.toNat + 1)) ^ keeps ss
  | [], _ => by simp [allMs, keeps]
  | s :: ss, h => by
    have h1 := memsOf_cap (h s (List.mem_cons_self ..))
    have h2 := allMs_cap (ss := ss) fun x hx => h x (List.mem_cons_of_mem _ hx)
    simp only [allMs, List.length_flatMap, List.length_map, List.map_const', List.sum_replicate_nat, keeps_cons, Nat.pow_add]
    exact Nat.mul_le_mul h1 h2
theorem Tab.cap {c : Chn} (ok : c.Ok) {o : List (List Mem)} (h : Tab c [c.first] o) : o.length ≤ (3 * (c.top.toNat + 1)) ^ 2 := by
  have h1 := nodup_le h.nd fun m hm => fits_mem ((h.rc m hm).fits ok (first_fits ok))
  have h2 := allMs_cap ok.ok
  have h3 : (3 * (c.top.toNat + 1)) ^ keeps c.stages ≤ (3 * (c.top.toNat + 1)) ^ 2 := Nat.pow_le_pow_right (by omega) ok.kp
  omega
def Sm (c c' : Chn) : Prop := ∀ o o', TabOk c [c.first] o → TabOk c' [c'.first] o' → o.length * o'.length ≤ 90000
theorem sm_top {c c' : Chn} (ok : c.Ok) (ok' : c'.Ok) (h : c.top ≤ 4) (h' : c'.top ≤ 4) : Sm c c' := fun o o' q q' => by
  have h1 := q.toTab.cap ok
  have h2 := q'.toTab.cap ok'
  have k1 : (3 * (c.top.toNat + 1)) ^ 2 ≤ 15 ^ 2 := Nat.pow_le_pow_left (by omega) 2
  have k2 : (3 * (c'.top.toNat + 1)) ^ 2 ≤ 15 ^ 2 := Nat.pow_le_pow_left (by omega) 2
  have := Nat.mul_le_mul (Nat.le_trans h1 k1) (Nat.le_trans h2 k2)
  omega
/-! ### tables as machines -/
def mcT (c : Chn) (o : List (List Mem)) : Mc := fun i x => ((c.go (o.getD i []) (x : Int)).1, o.idxOf (c.go (o.getD i []) (x : Int)).2)
theorem rows_tab (c : Chn) (o : List (List Mem)) : rowsD c o = tabD (mcT c o) o.length c.lev := by
  unfold rowsD tabD
  congr 1
  refine List.ext_getElem (by simp) fun i h1 h2 => ?_
  rw [List.getElem_map, List.getElem_map, List.getElem_range]
  unfold rowD rowK rowT
  congr 1
  refine List.map_congr_left fun x _ => ?_
  unfold cellD cellT mcT
  rw [List.getD_eq_getElem?_getD, List.getElem?_eq_getElem (by simpa using h1)]
  rfl
theorem getD_mem {o : List (List Mem)} {i : Nat} (h : i < o.length) : o.getD i [] ∈ o := by
  rw [List.getD_eq_getElem?_getD, List.getElem?_eq_getElem h]
  exact List.getElem_mem h
theorem mcT_clo {c : Chn} {F o : List (List Mem)} (ok : c.Ok) (h : Tab c F o) : Clo1 (mcT c o) o.length c.lev := fun i x hi hx =>
  List.idxOf_lt_length_of_mem (h.cl _ (getD_mem hi) _ ((lev_nat ok).mpr ⟨x, rfl, hx⟩))
@[reducible] def wInts (w : List Nat) : List Int := w.map fun (x : Nat) => (x : Int)
def outsC (c : Chn) (w : List Nat) : List Int := (runs c.stages c.first (wInts w)).1
theorem getD_idx {o : List (List Mem)} {m : List Mem} (h : m ∈ o) : o.getD (o.idxOf m) [] = m := by
  rw [List.getD_eq_getElem?_getD, List.getElem?_eq_getElem (List.idxOf_lt_length_of_mem h), List.getElem_idxOf]
  rfl
theorem mout_runs {c : Chn} {F o : List (List Mem)} (ok : c.Ok) (h : Tab c F o) : ∀ (w : List Nat) (i : Nat), i < o.length → Wd c.lev w → mout (mcT c o) i w = (runs c.stages (o.getD i []) (wInts w)).1
  | [], _, _, _ => rfl
  | x :: w, i, hi, hw => by
    rw [Wd.cons] at hw
    have hm := h.cl _ (getD_mem hi) _ ((lev_nat ok).mpr ⟨x, rfl, hw.1⟩)
    simp only [mout, List.map_cons, runs]
    rw [mout_runs ok h w _ (mcT_clo ok h i x hi hw.1) hw.2]
    simp only [mcT]
    rw [getD_idx hm]
theorem mout_C {c : Chn} {o : List (List Mem)} (ok : c.Ok) (h : Tab c [c.first] o) {w : List Nat} (hw : Wd c.lev w) : mout (mcT c o) 0 w = outsC c w := by
  have h0 := h.hd _ _ rfl
  rw [mout_runs ok h w 0 (List.getElem?_eq_some_iff.mp h0).1 hw]
  unfold outsC
  rw [List.getD_eq_getElem?_getD, h0]; rfl
def SameC (c c' : Chn) (w : List Nat) : Prop := outsC c w = outsC c' w
structure LeastC (c c' : Chn) (w : List Nat) : Prop where
  wd : Wd c.lev w
  ne : ¬ SameC c c' w
  lt : ∀ v, Wd c.lev v → code c.lev v < code c.lev w → SameC c c' v
theorem lev_eq {c c' : Chn} (h : c.top = c'.top) : c'.lev = c.lev := by unfold Chn.lev; rw [h]
theorem same_C {c c' : Chn} {o o' : List (List Mem)} (ok : c.Ok) (ok' : c'.Ok) (e : c.top = c'.top) (h : Tab c [c.first] o) (h' : Tab c' [c'.first] o') {w : List Nat} (hw : Wd c.lev w) : Same (mcT c o) (mcT c' o') 0 0 w ↔ SameC c c' w := by
  unfold Same SameC
  rw [mout_C ok h hw, mout_C ok' h' (by rw [lev_eq e]; exact hw)]
theorem least_C {c c' : Chn} {o o' : List (List Mem)} (ok : c.Ok) (ok' : c'.Ok) (e : c.top = c'.top) (h : Tab c [c.first] o) (h' : Tab c' [c'.first] o') {w : List Nat} : Least (mcT c o) (mcT c' o') c.lev 0 0 w ↔ LeastC c c' w :=
  ⟨fun l => ⟨l.wd, fun s => l.ne ((same_C ok ok' e h h' l.wd).mpr s), fun v hv hc => (same_C ok ok' e h h' hv).mp (l.lt v hv hc)⟩, fun l => ⟨l.wd, fun s => l.ne ((same_C ok ok' e h h' l.wd).mp s), fun v hv hc => (same_C ok ok' e h h' hv).mpr (l.lt v hv hc)⟩⟩
theorem LeastC.eq {c c' : Chn} {w v : List Nat} (h : LeastC c c' w) (k : LeastC c c' v) : w = v := by
  refine code_inj h.wd k.wd ?_
  rcases Nat.lt_trichotomy (code c.lev w) (code c.lev v) with q | q | q
  · exact (h.ne (k.lt _ h.wd q)).elim
  · exact q
  · exact (k.ne (h.lt _ k.wd q)).elim
theorem lev_pos {c : Chn} (ok : c.Ok) : 0 < c.lev := by have := ok.t1; unfold Chn.lev; omega
theorem Tab.pos {c : Chn} {o : List (List Mem)} (h : Tab c [c.first] o) : 0 < o.length := (List.getElem?_eq_some_iff.mp (h.hd _ _ rfl)).1
theorem least_C_len {c c' : Chn} {o o' : List (List Mem)} (ok : c.Ok) (ok' : c'.Ok) (e : c.top = c'.top) (h : Tab c [c.first] o) (h' : Tab c' [c'.first] o') {w : List Nat} (l : LeastC c c' w) : w.length + 1 ≤ o.length + o'.length :=
  least_len (lev_pos ok) (mcT_clo ok h) (by rw [← lev_eq e]; exact mcT_clo ok' h') h.pos h'.pos ((least_C ok ok' e h h').mpr l)
/-! ### the program's -/
structure Pr (c c' : Chn) : Prop where
  ok : c.Ok
  ok' : c'.Ok
  e : c.top = c'.top
  sm : Sm c c'
def sp_need_pair : FSpec := fun ds S R _ => ∃ c c' : Chn, ds = [c.d, c'.d] ∧ c.Ok ∧ c'.Ok ∧ c.top = c'.top ∧ R (.val .non) S
theorem vc_need_pair (ds S R) (h : sp_need_pair ds S R (fun _ _ => False)) : wf_need_pair sp_need_chain (ENDS R) (env0 2 ds) S := by
  obtain ⟨c, c', rfl, ok, ok', e, q⟩ := h
  ((try conv => whnf) <;> repeat ((first | (refine Ite.mt ?_ ?_; focus (first | rfl | (simp; done) | (simp; omega))) | (refine Ite.mf ?_ ?_; focus (first | rfl | (simp; done) | (simp; omega))) | (refine And.intro ?_ ?_; focus (first | rfl | decide | (simp; done) | (simp; omega) | omega))) <;> (try conv => whnf)))
  refine ⟨c, rfl, ok, ?_⟩
  ((try conv => whnf) <;> repeat ((first | (refine Ite.mt ?_ ?_; focus (first | rfl | (simp; done) | (simp; omega))) | (refine Ite.mf ?_ ?_; focus (first | rfl | (simp; done) | (simp; omega))) | (refine And.intro ?_ ?_; focus (first | rfl | decide | (simp; done) | (simp; omega) | omega))) <;> (try conv => whnf)))
  refine ⟨c', rfl, ok', ?_⟩
  (conv => whnf)
  refine Ite.mf (by simp [e]) ?_
  ((try conv => whnf) <;> repeat ((first | (refine Ite.mt ?_ ?_; focus (first | rfl | (simp; done) | (simp; omega))) | (refine Ite.mf ?_ ?_; focus (first | rfl | (simp; done) | (simp; omega))) | (refine And.intro ?_ ?_; focus (first | rfl | decide | (simp; done) | (simp; omega) | omega))) <;> (try conv => whnf)))
  exact q
def sp_same_for_all : FSpec := fun ds S R _ => ∃ c c' : Chn, ds = [c.d, c'.d] ∧ Pr c c' ∧ ((∀ w, Wd c.lev w → SameC c c' w) → R (.val (.bl true)) S) ∧ (∀ w, LeastC c c' w → R (.val (.bl false)) S)
theorem pr_parted {c c' : Chn} {o o' : List (List Mem)} {S : Sto} {R : T → Sto → Prop} {E} (p : Pr c c') (ho : TabOk c [c.first] o) (ho' : TabOk c' [c'.first] o') (q1 : (∀ w, Wd c.lev w → SameC c c' w) → R (.val .non) S) (q2 : ∀ w, LeastC c c' w → R (.val (natsT w)) S) : sp_parted [rowsD c o, rowsD c' o'] S R E := by
  refine ⟨mcT c o, mcT c' o', o.length, o'.length, c.lev, ?_, mcT_clo p.ok ho.toTab, ?_, ho.toTab.pos, ho'.toTab.pos, lev_pos p.ok, by have := lev6 p.ok; omega, p.sm o o' ho ho', fun h => q1 fun w hw => (same_C p.ok p.ok' p.e ho.toTab ho'.toTab hw).mp (h w hw), fun w l => q2 w ((least_C p.ok p.ok' p.e ho.toTab ho'.toTab).mp l)⟩
  · rw [rows_tab, rows_tab, lev_eq p.e]
  · rw [← lev_eq p.e]; exact mcT_clo p.ok' ho'.toTab
theorem vc_same_for_all (ds S R) (h : sp_same_for_all ds S R (fun _ _ => False)) : wf_same_for_all sp_parted sp_rows_of (ENDS R) (env0 2 ds) S := by
  obtain ⟨c, c', rfl, p, q1, q2⟩ := h
  ((try conv => whnf) <;> repeat ((first | (refine Ite.mt ?_ ?_; focus (first | rfl | (simp; done) | (simp; omega))) | (refine Ite.mf ?_ ?_; focus (first | rfl | (simp; done) | (simp; omega))) | (refine And.intro ?_ ?_; focus (first | rfl | decide | (simp; done) | (simp; omega) | omega))) <;> (try conv => whnf)))
  refine ⟨c, rfl, p.ok, fun o ho => ?_⟩
  ((try conv => whnf) <;> repeat ((first | (refine Ite.mt ?_ ?_; focus (first | rfl | (simp; done) | (simp; omega))) | (refine Ite.mf ?_ ?_; focus (first | rfl | (simp; done) | (simp; omega))) | (refine And.intro ?_ ?_; focus (first | rfl | decide | (simp; done) | (simp; omega) | omega))) <;> (try conv => whnf)))
  refine ⟨c', rfl, p.ok', fun o' ho' => ?_⟩
  (conv => whnf)
  refine ⟨rfl, pr_parted p ho ho' (fun h => ?_) (fun w l => ?_)⟩
  · ((try conv => whnf) <;> repeat ((first | (refine Ite.mt ?_ ?_; focus (first | rfl | (simp; done) | (simp; omega))) | (refine Ite.mf ?_ ?_; focus (first | rfl | (simp; done) | (simp; omega))) | (refine And.intro ?_ ?_; focus (first | rfl | decide | (simp; done) | (simp; omega) | omega))) <;> (try conv => whnf)))
    exact q1 h
  · ((try conv => whnf) <;> repeat ((first | (refine Ite.mt ?_ ?_; focus (first | rfl | (simp; done) | (simp; omega))) | (refine Ite.mf ?_ ?_; focus (first | rfl | (simp; done) | (simp; omega))) | (refine And.intro ?_ ?_; focus (first | rfl | decide | (simp; done) | (simp; omega) | omega))) <;> (try conv => whnf)))
    exact q2 w l
def sp_alike : FSpec := fun ds S R E => sp_same_for_all ds S R E
theorem vc_alike (ds S R) (h : sp_alike ds S R (fun _ _ => False)) : wf_alike sp_same_for_all sp_need_pair (ENDS R) (env0 2 ds) S := by
  obtain ⟨c, c', rfl, p, q1, q2⟩ := h
  ((try conv => whnf) <;> repeat ((first | (refine Ite.mt ?_ ?_; focus (first | rfl | (simp; done) | (simp; omega))) | (refine Ite.mf ?_ ?_; focus (first | rfl | (simp; done) | (simp; omega))) | (refine And.intro ?_ ?_; focus (first | rfl | decide | (simp; done) | (simp; omega) | omega))) <;> (try conv => whnf)))
  refine ⟨c, c', rfl, p.ok, p.ok', p.e, ?_⟩
  ((try conv => whnf) <;> repeat ((first | (refine Ite.mt ?_ ?_; focus (first | rfl | (simp; done) | (simp; omega))) | (refine Ite.mf ?_ ?_; focus (first | rfl | (simp; done) | (simp; omega))) | (refine And.intro ?_ ?_; focus (first | rfl | decide | (simp; done) | (simp; omega) | omega))) <;> (try conv => whnf)))
  exact ⟨c, c', rfl, p, q1, q2⟩
def sp_parting_signal : FSpec := fun ds S R _ => ∃ c c' : Chn, ds = [c.d, c'.d] ∧ Pr c c' ∧ ((∀ w, Wd c.lev w → SameC c c' w) → R (.val .non) S) ∧ (∀ w, LeastC c c' w → R (.val (natsT w)) S)
theorem vc_parting_signal (ds S R) (h : sp_parting_signal ds S R (fun _ _ => False)) : wf_parting_signal sp_parted sp_rows_of sp_need_pair (ENDS R) (env0 2 ds) S := by
  obtain ⟨c, c', rfl, p, q1, q2⟩ := h
  ((try conv => whnf) <;> repeat ((first | (refine Ite.mt ?_ ?_; focus (first | rfl | (simp; done) | (simp; omega))) | (refine Ite.mf ?_ ?_; focus (first | rfl | (simp; done) | (simp; omega))) | (refine And.intro ?_ ?_; focus (first | rfl | decide | (simp; done) | (simp; omega) | omega))) <;> (try conv => whnf)))
  refine ⟨c, c', rfl, p.ok, p.ok', p.e, ?_⟩
  ((try conv => whnf) <;> repeat ((first | (refine Ite.mt ?_ ?_; focus (first | rfl | (simp; done) | (simp; omega))) | (refine Ite.mf ?_ ?_; focus (first | rfl | (simp; done) | (simp; omega))) | (refine And.intro ?_ ?_; focus (first | rfl | decide | (simp; done) | (simp; omega) | omega))) <;> (try conv => whnf)))
  refine ⟨c, rfl, p.ok, fun o ho => ?_⟩
  ((try conv => whnf) <;> repeat ((first | (refine Ite.mt ?_ ?_; focus (first | rfl | (simp; done) | (simp; omega))) | (refine Ite.mf ?_ ?_; focus (first | rfl | (simp; done) | (simp; omega))) | (refine And.intro ?_ ?_; focus (first | rfl | decide | (simp; done) | (simp; omega) | omega))) <;> (try conv => whnf)))
  refine ⟨c', rfl, p.ok', fun o' ho' => ?_⟩
  (conv => whnf)
  exact ⟨rfl, pr_parted p ho ho' q1 q2⟩
def sp_bound : FSpec := fun ds S R _ => ∃ c c' : Chn, ds = [c.d, c'.d] ∧ c.Ok ∧ c'.Ok ∧ c.top = c'.top ∧ ∀ o o', TabOk c [c.first] o → TabOk c' [c'.first] o' → R (.val (.int ((o.length : Int) + (o'.length : Int) - 1))) S
theorem rowsD_len (c : Chn) (o : List (List Mem)) : (o.map (rowD c o)).length = o.length := List.length_map ..
theorem vc_bound (ds S R) (h : sp_bound ds S R (fun _ _ => False)) : wf_bound sp_rows_of sp_need_pair (ENDS R) (env0 2 ds) S := by
  obtain ⟨c, c', rfl, ok, ok', e, q⟩ := h
  ((try conv => whnf) <;> repeat ((first | (refine Ite.mt ?_ ?_; focus (first | rfl | (simp; done) | (simp; omega))) | (refine Ite.mf ?_ ?_; focus (first | rfl | (simp; done) | (simp; omega))) | (refine And.intro ?_ ?_; focus (first | rfl | decide | (simp; done) | (simp; omega) | omega))) <;> (try conv => whnf)))
  refine ⟨c, c', rfl, ok, ok', e, ?_⟩
  ((try conv => whnf) <;> repeat ((first | (refine Ite.mt ?_ ?_; focus (first | rfl | (simp; done) | (simp; omega))) | (refine Ite.mf ?_ ?_; focus (first | rfl | (simp; done) | (simp; omega))) | (refine And.intro ?_ ?_; focus (first | rfl | decide | (simp; done) | (simp; omega) | omega))) <;> (try conv => whnf)))
  refine ⟨c, rfl, ok, fun o ho => ?_⟩
  ((try conv => whnf) <;> repeat ((first | (refine Ite.mt ?_ ?_; focus (first | rfl | (simp; done) | (simp; omega))) | (refine Ite.mf ?_ ?_; focus (first | rfl | (simp; done) | (simp; omega))) | (refine And.intro ?_ ?_; focus (first | rfl | decide | (simp; done) | (simp; omega) | omega))) <;> (try conv => whnf)))
  refine ⟨c', rfl, ok', fun o' ho' => ?_⟩
  ((try conv => whnf) <;> repeat ((first | (refine Ite.mt ?_ ?_; focus (first | rfl | (simp; done) | (simp; omega))) | (refine Ite.mf ?_ ?_; focus (first | rfl | (simp; done) | (simp; omega))) | (refine And.intro ?_ ?_; focus (first | rfl | decide | (simp; done) | (simp; omega) | omega))) <;> (try conv => whnf)))
  rw [rowsD_len, rowsD_len]
  exact q o o' ho ho'
theorem mo_row_to : MoF sp_row_to := by (intro ds S R R' E i; repeat (first | exact i _ _ | (refine Exists.imp fun _ => ?_) | (refine And.imp_right ?_) | (intro f x; refine (show _ → _ from ?_) (f x))))
theorem mo_parted : MoF sp_parted := by
  intro ds S R R' E i
  rintro ⟨g, g', n, n', L, a1, a2, a3, a4, a5, a6, a7, a8, a9, a10⟩
  exact ⟨g, g', n, n', L, a1, a2, a3, a4, a5, a6, a7, a8, fun h => i _ _ (a9 h), fun w l => i _ _ (a10 w l)⟩
theorem mo_need_pair : MoF sp_need_pair := by (intro ds S R R' E i; repeat (first | exact i _ _ | (refine Exists.imp fun _ => ?_) | (refine And.imp_right ?_) | (intro f x; refine (show _ → _ from ?_) (f x))))
theorem mo_same_for_all : MoF sp_same_for_all := by
  intro ds S R R' E i
  rintro ⟨c, c', a1, a2, a9, a10⟩
  exact ⟨c, c', a1, a2, fun h => i _ _ (a9 h), fun w l => i _ _ (a10 w l)⟩
theorem mo_alike : MoF sp_alike := mo_same_for_all
theorem mo_parting_signal : MoF sp_parting_signal := by
  intro ds S R R' E i
  rintro ⟨c, c', a1, a2, a9, a10⟩
  exact ⟨c, c', a1, a2, fun h => i _ _ (a9 h), fun w l => i _ _ (a10 w l)⟩
theorem mo_bound : MoF sp_bound := by (intro ds S R R' E i; repeat (first | exact i _ _ | (refine Exists.imp fun _ => ?_) | (refine And.imp_right ?_) | (intro f x; refine (show _ → _ from ?_) (f x))))
end VC

set_option Elab.async false
set_option linter.all false
set_option maxRecDepth 100000
set_option maxHeartbeats 4000000
/-! P5: the laws' bent chains. -/
namespace VC
open PySem PySem.Spec PyProof.Rows L2
theorem wnil_i {D : WEnds} {e : VEnv} {s : Sto} (h : D.nx e s) : wNil D e s := h
theorem eqv_nil {xs : List D} : D.eqv (.tup xs) (.tup []) = decide (xs = []) := by cases xs <;> simp [D.eqv, D.eqvs]
theorem cut_take {xs : List D} {i : Nat} (h : i ≤ xs.length) : cutD xs none (some (i : Int)) = xs.take i := by
  unfold cutD
  rw [HT.sIx_none, HT.sIx_nat, Nat.min_eq_left h]; rfl
theorem cut_drop {xs : List D} {i : Nat} (h : i ≤ xs.length) : cutD xs (some (i : Int)) none = xs.drop i := by
  unfold cutD
  rw [HT.sIx_none, HT.sIx_nat, Nat.min_eq_left h, List.take_of_length_le (by simp)]
def sp__law_one : FSpec := fun ds S R _ => ∃ (r : Nat) (xs : List D) (n : Int), ds = [.ref r, .lst xs] ∧ Deck n r S ∧ n < 2 ^ 32 ∧ 0 < xs.length ∧ xs.length < 1000000 ∧ ∀ x S', x ∈ xs → Deck (n + 1) r S' → But1 r S S' → R (.val x) S'
theorem vc__law_one (ds S R) (h : sp__law_one ds S R (fun _ _ => False)) : wf_law_one sp__law_pick (ENDS R) (env0 2 ds) S := by
  obtain ⟨r, xs, n, rfl, dk, hn, l0, l1, q⟩ := h
  ((try conv => whnf) <;> repeat ((first | (refine Ite.mt ?_ ?_; focus (first | rfl | (simp; done) | (simp; omega))) | (refine Ite.mf ?_ ?_; focus (first | rfl | (simp; done) | (simp; omega))) | (refine And.intro ?_ ?_; focus (first | rfl | decide | (simp; done) | (simp; omega) | omega))) <;> (try conv => whnf)))
  refine ⟨r, _, n, rfl, dk, hn, by omega, by omega, fun k S1 k0 k1 d1 b1 => ?_⟩
  obtain ⟨i, rfl⟩ := Int.eq_ofNat_of_zero_le k0
  have hi : i < xs.length := by omega
  (conv => whnf)
  rw [atD_nat (List.getElem?_eq_getElem hi)]
  ((try conv => whnf) <;> repeat ((first | (refine Ite.mt ?_ ?_; focus (first | rfl | (simp; done) | (simp; omega))) | (refine Ite.mf ?_ ?_; focus (first | rfl | (simp; done) | (simp; omega))) | (refine And.intro ?_ ?_; focus (first | rfl | decide | (simp; done) | (simp; omega) | omega))) <;> (try conv => whnf)))
  exact q _ S1 (List.getElem_mem hi) d1 b1
theorem keeps_app (a b : List Stg) : keeps (a ++ b) = keeps a + keeps b := by simp [keeps]
theorem ok_cut {c : Chn} (ok : c.Ok) {i : Nat} (hi : i < c.stages.length) {x : Int} {l : List Stg} (hl : l.length ≤ 1) (h : ∀ s ∈ l, s.Ok c.top ∧ s.keep = (c.stages[i]).keep) (x0 : 0 ≤ x) (x1 : x ≤ c.top) : Chn.Ok ⟨c.top, x, c.stages.take i ++ l ++ c.stages.drop (i + 1)⟩ := by
  have e : c.stages = c.stages.take i ++ c.stages[i] :: c.stages.drop (i + 1) := by rw [← List.drop_eq_getElem_cons hi, List.take_append_drop]
  have len := ok.len
  refine ⟨ok.t1, ok.t5, x0, x1, by simp; omega, fun s hs => ?_, ?_⟩
  · rcases List.mem_append.mp hs with hs | hs
    · rcases List.mem_append.mp hs with hs | hs
      · exact ok.ok s (List.mem_of_mem_take hs)
      · exact (h s hs).1
    · exact ok.ok s (List.mem_of_mem_drop hs)
  · have kp := ok.kp
    rw [e, keeps_app, keeps_cons] at kp
    show keeps (c.stages.take i ++ l ++ c.stages.drop (i + 1)) ≤ 2
    rw [keeps_app, keeps_app]
    have : keeps l ≤ (if (c.stages[i]).keep then 1 else 0) := by
      match l, hl with
      | [], _ => simp [keeps]
      | [s], _ =>
        rw [keeps_cons, (h s (List.mem_cons_self ..)).2]
        simp [keeps]
    omega
theorem ok_stgs (l : List Stg) : okd (.tup (l.map Stg.d)) 3 = true := by
  simp only [okd]
  exact okds_of fun d hd => by
    obtain ⟨s, _, rfl⟩ := List.mem_map.mp hd
    cases s <;> simp [okd, okds] <;> decide +kernel
def c05 (v : Int) : Int := if (if v > 0 then v else 0) < 5 then if v > 0 then v else 0 else 5
theorem c05_ok {t : Int} (v w : Int) : Stg.Ok t (.slew (c05 v) (c05 w)) := by
  refine ⟨?_, ?_, ?_, ?_⟩ <;> (unfold c05; repeat' split) <;> omega
def sp__law_bent : FSpec := fun ds S R _ => ∃ (r : Nat) (c : Chn) (n : Int), ds = [.ref r, c.d] ∧ c.Ok ∧ Deck n r S ∧ n + 20 < 2 ^ 32 ∧ ∀ (c' : Chn) S', c'.Ok → c'.top = c.top → c'.stages.length ≤ c.stages.length → Deck (n + 10) r S' → But1 r S S' → R (.val c'.d) S'
theorem vc__law_bent (ds S R) (h : sp__law_bent ds S R (fun _ _ => False)) : wf_law_bent sp__law_pick sp__law_one (ENDS R) (env0 12 ds) S := by
  obtain ⟨r, c, n, rfl, ok, dk, hn, q⟩ := h
  have t1 := ok.t1
  have t5 := ok.t5
  have len := ok.len
  ((try conv => whnf) <;> repeat ((first | (refine Ite.mt ?_ ?_; focus (first | rfl | (simp; done) | (simp; omega))) | (refine Ite.mf ?_ ?_; focus (first | rfl | (simp; done) | (simp; omega))) | (refine And.intro ?_ ?_; focus (first | rfl | decide | (simp; done) | (simp; omega) | omega))) <;> (try conv => whnf)))
  refine ⟨⟨okd_cmp (ok_stgs c.stages), rfl⟩, ?_⟩
  have start : ∀ n' S1, Deck n' r S1 → n' ≤ n + 2 → But1 r S S1 → ∀ k : Int, 0 ≤ k → k < c.top + 1 → ∀ S2, Deck (n' + 1) r S2 → But1 r S1 S2 → R (.val (.tup [.int c.top, .int k, .tup (c.stages.map Stg.d)])) S2 := fun n' S1 d1 h1 b1 k k0 k1 S2 d2 b2 =>
    q ⟨c.top, k, c.stages⟩ S2 ⟨t1, t5, k0, by simp; omega, len, ok.ok, ok.kp⟩ rfl (Nat.le_refl _) (d2.mono (by omega)) (b1.trans b2)
  (conv => whnf)
  refine Ite.intro (fun he => ?_) (fun he => ?_)
  · ((try conv => whnf) <;> repeat ((first | (refine Ite.mt ?_ ?_; focus (first | rfl | (simp; done) | (simp; omega))) | (refine Ite.mf ?_ ?_; focus (first | rfl | (simp; done) | (simp; omega))) | (refine And.intro ?_ ?_; focus (first | rfl | decide | (simp; done) | (simp; omega) | omega))) <;> (try conv => whnf)))
    refine ⟨r, _, n, rfl, dk, by omega, by omega, by omega, fun k S1 k0 k1 d1 b1 => ?_⟩
    ((try conv => whnf) <;> repeat ((first | (refine Ite.mt ?_ ?_; focus (first | rfl | (simp; done) | (simp; omega))) | (refine Ite.mf ?_ ?_; focus (first | rfl | (simp; done) | (simp; omega))) | (refine And.intro ?_ ?_; focus (first | rfl | decide | (simp; done) | (simp; omega) | omega))) <;> (try conv => whnf)))
    exact start n S dk (by omega) (But1.refl _ _) k k0 k1 S1 d1 b1
  · ((try conv => whnf) <;> repeat ((first | (refine Ite.mt ?_ ?_; focus (first | rfl | (simp; done) | (simp; omega))) | (refine Ite.mf ?_ ?_; focus (first | rfl | (simp; done) | (simp; omega))) | (refine And.intro ?_ ?_; focus (first | rfl | decide | (simp; done) | (simp; omega) | omega))) <;> (try conv => whnf)))
    have he : D.eqv (.tup (c.stages.map Stg.d)) (.tup []) = false := he
    rw [eqv_nil] at he
    have hpos : 0 < c.stages.length := List.length_pos_iff.mpr (by simpa using he)
    refine ⟨r, 6, n, rfl, dk, by omega, by decide, by decide, fun k S1 k0 k1 d1 b1 => ?_⟩
    (conv => whnf)
    refine Ite.intro (fun hc => ?_) (fun hc => ?_)
    · ((try conv => whnf) <;> repeat ((first | (refine Ite.mt ?_ ?_; focus (first | rfl | (simp; done) | (simp; omega))) | (refine Ite.mf ?_ ?_; focus (first | rfl | (simp; done) | (simp; omega))) | (refine And.intro ?_ ?_; focus (first | rfl | decide | (simp; done) | (simp; omega) | omega))) <;> (try conv => whnf)))
      refine ⟨r, _, n + 1, rfl, d1, by omega, by omega, by omega, fun k S2 k0 k1 d2 b2 => ?_⟩
      ((try conv => whnf) <;> repeat ((first | (refine Ite.mt ?_ ?_; focus (first | rfl | (simp; done) | (simp; omega))) | (refine Ite.mf ?_ ?_; focus (first | rfl | (simp; done) | (simp; omega))) | (refine And.intro ?_ ?_; focus (first | rfl | decide | (simp; done) | (simp; omega) | omega))) <;> (try conv => whnf)))
      exact start (n + 1) S1 d1 (by omega) b1 k k0 k1 S2 d2 b2
    · ((try conv => whnf) <;> repeat ((first | (refine Ite.mt ?_ ?_; focus (first | rfl | (simp; done) | (simp; omega))) | (refine Ite.mf ?_ ?_; focus (first | rfl | (simp; done) | (simp; omega))) | (refine And.intro ?_ ?_; focus (first | rfl | decide | (simp; done) | (simp; omega) | omega))) <;> (try conv => whnf)))
      refine ⟨r, _, n + 1, rfl, d1, by omega, by simp; omega, by simp; omega, fun k S2 k0 k1 d2 b2 => ?_⟩
      have b12 := b1.trans b2
      obtain ⟨i, rfl⟩ := Int.eq_ofNat_of_zero_le k0
      have hi : i < c.stages.length := by simpa using k1
      ((try conv => whnf) <;> repeat ((first | (refine Ite.mt ?_ ?_; focus (first | rfl | (simp; done) | (simp; omega))) | (refine Ite.mf ?_ ?_; focus (first | rfl | (simp; done) | (simp; omega))) | (refine And.intro ?_ ?_; focus (first | rfl | decide | (simp; done) | (simp; omega) | omega))) <;> (try conv => whnf)))
      have hk : (c.stages.map Stg.d)[i]? = some (c.stages[i]).d := by rw [List.getElem?_map, List.getElem?_eq_getElem hi]; rfl
      rw [atD_nat hk]
      have sok := ok.ok _ (List.getElem_mem hi)
      have fin : ∀ (nw : Stg) S3, nw.Ok c.top → nw.keep = (c.stages[i]).keep → Deck (n + 9) r S3 → But1 r S S3 → R (.val (.tup [.int c.top, .int c.start, .tup (cutD (c.stages.map Stg.d) none (some (i : Int)) ++ [nw.d] ++ cutD (c.stages.map Stg.d) (some ((i : Int) + 1)) none)])) S3 := fun nw S3 h1 h2 d3 b3 => by
        have := q ⟨c.top, c.start, c.stages.take i ++ [nw] ++ c.stages.drop (i + 1)⟩ S3 (ok_cut ok hi (by simp) (fun s hs => by rw [List.mem_singleton.mp hs]; exact ⟨h1, h2⟩) ok.s0 ok.st) rfl (by simp; omega) (d3.mono (by omega)) b3
        rw [cut_take (by simp; omega), show ((i : Int) + 1) = ((i + 1 : Nat) : Int) from rfl, cut_drop (by simp; omega), ← List.map_take, ← List.map_drop]
        simp only [Chn.d, List.map_append, List.map_cons, List.map_nil] at this
        exact this
      have fin0 : ∀ S3, Deck (n + 9) r S3 → But1 r S S3 → R (.val (.tup [.int c.top, .int c.start, .tup (cutD (c.stages.map Stg.d) none (some (i : Int)) ++ cutD (c.stages.map Stg.d) (some ((i : Int) + 1)) none)])) S3 := fun S3 d3 b3 => by
        have := q ⟨c.top, c.start, c.stages.take i ++ [] ++ c.stages.drop (i + 1)⟩ S3 (ok_cut ok hi (by simp) (fun s hs => by simp at hs) ok.s0 ok.st) rfl (by simp; omega) (d3.mono (by omega)) b3
        rw [cut_take (by simp; omega), show ((i : Int) + 1) = ((i + 1 : Nat) : Int) from rfl, cut_drop (by simp; omega), ← List.map_take, ← List.map_drop]
        simp only [Chn.d, List.map_append, List.append_nil] at this
        exact this
      have cl1 : (cutD (c.stages.map Stg.d) none (some (i : Int))).length ≤ 3 := by rw [cut_take (by simp; omega)]; simp; omega
      have cl2 : (cutD (c.stages.map Stg.d) (some ((i : Int) + 1)) none).length ≤ 3 := by rw [show ((i : Int) + 1) = ((i + 1 : Nat) : Int) from rfl, cut_drop (by simp; omega)]; simp; omega
      generalize hst : c.stages[i] = st at sok fin
      cases st with
      | hold w =>
        obtain ⟨w1, w2⟩ := sok
        ((try conv => whnf) <;> repeat ((first | (refine Ite.mt ?_ ?_; focus (first | rfl | (simp; done) | (simp; omega))) | (refine Ite.mf ?_ ?_; focus (first | rfl | (simp; done) | (simp; omega))) | (refine And.intro ?_ ?_; focus (first | rfl | decide | (simp; done) | (simp; omega) | omega))) <;> (try conv => whnf)))
        refine ⟨r, 4, n + 1 + 1, rfl, d2, by omega, by decide, by decide, fun k S3 k0 k1 d3 b3 => ?_⟩
        (conv => whnf)
        refine Ite.intro (fun hc => ?_) (fun hc => ?_)
        · ((try conv => whnf) <;> repeat ((first | (refine Ite.mt ?_ ?_; focus (first | rfl | (simp; done) | (simp; omega))) | (refine Ite.mf ?_ ?_; focus (first | rfl | (simp; done) | (simp; omega))) | (refine And.intro ?_ ?_; focus (first | rfl | decide | (simp; done) | (simp; omega) | omega))) <;> (try conv => whnf)))
          refine ⟨th40 (by omega), ?_⟩
          ((try conv => whnf) <;> repeat ((first | (refine Ite.mt ?_ ?_; focus (first | rfl | (simp; done) | (simp; omega))) | (refine Ite.mf ?_ ?_; focus (first | rfl | (simp; done) | (simp; omega))) | (refine And.intro ?_ ?_; focus (first | rfl | decide | (simp; done) | (simp; omega) | omega))) <;> (try conv => whnf)))
          exact fin0 S3 (d3.mono (by omega)) (b12.trans b3)
        · ((try conv => whnf) <;> repeat ((first | (refine Ite.mt ?_ ?_; focus (first | rfl | (simp; done) | (simp; omega))) | (refine Ite.mf ?_ ?_; focus (first | rfl | (simp; done) | (simp; omega))) | (refine And.intro ?_ ?_; focus (first | rfl | decide | (simp; done) | (simp; omega) | omega))) <;> (try conv => whnf)))
          refine ⟨th40 (by simp; omega), ?_⟩
          ((try conv => whnf) <;> repeat ((first | (refine Ite.mt ?_ ?_; focus (first | rfl | (simp; done) | (simp; omega))) | (refine Ite.mf ?_ ?_; focus (first | rfl | (simp; done) | (simp; omega))) | (refine And.intro ?_ ?_; focus (first | rfl | decide | (simp; done) | (simp; omega) | omega))) <;> (try conv => whnf)))
          refine ⟨th40 (by simp; omega), ?_⟩
          ((try conv => whnf) <;> repeat ((first | (refine Ite.mt ?_ ?_; focus (first | rfl | (simp; done) | (simp; omega))) | (refine Ite.mf ?_ ?_; focus (first | rfl | (simp; done) | (simp; omega))) | (refine And.intro ?_ ?_; focus (first | rfl | decide | (simp; done) | (simp; omega) | omega))) <;> (try conv => whnf)))
          exact fin (.hold (3 - w)) S3 ⟨by omega, by omega⟩ rfl (d3.mono (by omega)) (b12.trans b3)
      | slew u d =>
        obtain ⟨u0, u1, d0, d1'⟩ := sok
        ((try conv => whnf) <;> repeat ((first | (refine Ite.mt ?_ ?_; focus (first | rfl | (simp; done) | (simp; omega))) | (refine Ite.mf ?_ ?_; focus (first | rfl | (simp; done) | (simp; omega))) | (refine And.intro ?_ ?_; focus (first | rfl | decide | (simp; done) | (simp; omega) | omega))) <;> (try conv => whnf)))
        refine ⟨r, _, n + 1 + 1, rfl, d2, by omega, by simp, by simp, fun x S3 hx d3 b3 => ?_⟩
        simp only [List.mem_cons, List.not_mem_nil, or_false] at hx
        obtain ⟨a, b, rfl⟩ : ∃ a b : Int, x = .tup [.int a, .int b] := by rcases hx with rfl | rfl | rfl | rfl <;> exact ⟨_, _, rfl⟩
        clear hx
        ((try conv => whnf) <;> repeat ((first | (refine Ite.mt ?_ ?_; focus (first | rfl | (simp; done) | (simp; omega))) | (refine Ite.mf ?_ ?_; focus (first | rfl | (simp; done) | (simp; omega))) | (refine And.intro ?_ ?_; focus (first | rfl | decide | (simp; done) | (simp; omega) | omega))) <;> (try conv => whnf)))
        refine ⟨r, 4, n + 1 + 1 + 1, rfl, d3, by omega, by decide, by decide, fun k S4 k0 k1 d4 b4 => ?_⟩
        (conv => whnf)
        refine Ite.intro (fun hc => ?_) (fun hc => ?_)
        · ((try conv => whnf) <;> repeat ((first | (refine Ite.mt ?_ ?_; focus (first | rfl | (simp; done) | (simp; omega))) | (refine Ite.mf ?_ ?_; focus (first | rfl | (simp; done) | (simp; omega))) | (refine And.intro ?_ ?_; focus (first | rfl | decide | (simp; done) | (simp; omega) | omega))) <;> (try conv => whnf)))
          refine ⟨th40 (by omega), ?_⟩
          ((try conv => whnf) <;> repeat ((first | (refine Ite.mt ?_ ?_; focus (first | rfl | (simp; done) | (simp; omega))) | (refine Ite.mf ?_ ?_; focus (first | rfl | (simp; done) | (simp; omega))) | (refine And.intro ?_ ?_; focus (first | rfl | decide | (simp; done) | (simp; omega) | omega))) <;> (try conv => whnf)))
          exact fin0 S4 (d4.mono (by omega)) ((b12.trans b3).trans b4)
        · ((try conv => whnf) <;> repeat ((first | (refine Ite.mt ?_ ?_; focus (first | rfl | (simp; done) | (simp; omega))) | (refine Ite.mf ?_ ?_; focus (first | rfl | (simp; done) | (simp; omega))) | (refine And.intro ?_ ?_; focus (first | rfl | decide | (simp; done) | (simp; omega) | omega))) <;> (try conv => whnf)))
          refine ⟨th40 (by simp; omega), ?_⟩
          ((try conv => whnf) <;> repeat ((first | (refine Ite.mt ?_ ?_; focus (first | rfl | (simp; done) | (simp; omega))) | (refine Ite.mf ?_ ?_; focus (first | rfl | (simp; done) | (simp; omega))) | (refine And.intro ?_ ?_; focus (first | rfl | decide | (simp; done) | (simp; omega) | omega))) <;> (try conv => whnf)))
          refine ⟨th40 (by simp; omega), ?_⟩
          ((try conv => whnf) <;> repeat ((first | (refine Ite.mt ?_ ?_; focus (first | rfl | (simp; done) | (simp; omega))) | (refine Ite.mf ?_ ?_; focus (first | rfl | (simp; done) | (simp; omega))) | (refine And.intro ?_ ?_; focus (first | rfl | decide | (simp; done) | (simp; omega) | omega))) <;> (try conv => whnf)))
          exact fin (.slew (c05 _) (c05 _)) S4 (c05_ok _ _) rfl (d4.mono (by omega)) ((b12.trans b3).trans b4)
      | clip l h =>
        ((try conv => whnf) <;> repeat ((first | (refine Ite.mt ?_ ?_; focus (first | rfl | (simp; done) | (simp; omega))) | (refine Ite.mf ?_ ?_; focus (first | rfl | (simp; done) | (simp; omega))) | (refine And.intro ?_ ?_; focus (first | rfl | decide | (simp; done) | (simp; omega) | omega))) <;> (try conv => whnf)))
        refine ⟨r, _, n + 1 + 1, rfl, d2, by omega, by omega, by omega, fun lo S3 l0 l1 d3 b3 => ?_⟩
        ((try conv => whnf) <;> repeat ((first | (refine Ite.mt ?_ ?_; focus (first | rfl | (simp; done) | (simp; omega))) | (refine Ite.mf ?_ ?_; focus (first | rfl | (simp; done) | (simp; omega))) | (refine And.intro ?_ ?_; focus (first | rfl | decide | (simp; done) | (simp; omega) | omega))) <;> (try conv => whnf)))
        refine ⟨r, _, n + 1 + 1 + 1, rfl, d3, by omega, by omega, by omega, fun hi' S4 h0 h1 d4 b4 => ?_⟩
        ((try conv => whnf) <;> repeat ((first | (refine Ite.mt ?_ ?_; focus (first | rfl | (simp; done) | (simp; omega))) | (refine Ite.mf ?_ ?_; focus (first | rfl | (simp; done) | (simp; omega))) | (refine And.intro ?_ ?_; focus (first | rfl | decide | (simp; done) | (simp; omega) | omega))) <;> (try conv => whnf)))
        refine ⟨r, 4, n + 1 + 1 + 1 + 1, rfl, d4, by omega, by decide, by decide, fun k S5 k0 k1 d5 b5 => ?_⟩
        (conv => whnf)
        refine Ite.intro (fun hc => ?_) (fun hc => ?_)
        · ((try conv => whnf) <;> repeat ((first | (refine Ite.mt ?_ ?_; focus (first | rfl | (simp; done) | (simp; omega))) | (refine Ite.mf ?_ ?_; focus (first | rfl | (simp; done) | (simp; omega))) | (refine And.intro ?_ ?_; focus (first | rfl | decide | (simp; done) | (simp; omega) | omega))) <;> (try conv => whnf)))
          refine ⟨th40 (by omega), ?_⟩
          ((try conv => whnf) <;> repeat ((first | (refine Ite.mt ?_ ?_; focus (first | rfl | (simp; done) | (simp; omega))) | (refine Ite.mf ?_ ?_; focus (first | rfl | (simp; done) | (simp; omega))) | (refine And.intro ?_ ?_; focus (first | rfl | decide | (simp; done) | (simp; omega) | omega))) <;> (try conv => whnf)))
          exact fin0 S5 (d5.mono (by omega)) (((b12.trans b3).trans b4).trans b5)
        · ((try conv => whnf) <;> repeat ((first | (refine Ite.mt ?_ ?_; focus (first | rfl | (simp; done) | (simp; omega))) | (refine Ite.mf ?_ ?_; focus (first | rfl | (simp; done) | (simp; omega))) | (refine And.intro ?_ ?_; focus (first | rfl | decide | (simp; done) | (simp; omega) | omega))) <;> (try conv => whnf)))
          refine ⟨th40 (by simp; omega), ?_⟩
          ((try conv => whnf) <;> repeat ((first | (refine Ite.mt ?_ ?_; focus (first | rfl | (simp; done) | (simp; omega))) | (refine Ite.mf ?_ ?_; focus (first | rfl | (simp; done) | (simp; omega))) | (refine And.intro ?_ ?_; focus (first | rfl | decide | (simp; done) | (simp; omega) | omega))) <;> (try conv => whnf)))
          refine ⟨th40 (by simp; omega), ?_⟩
          ((try conv => whnf) <;> repeat ((first | (refine Ite.mt ?_ ?_; focus (first | rfl | (simp; done) | (simp; omega))) | (refine Ite.mf ?_ ?_; focus (first | rfl | (simp; done) | (simp; omega))) | (refine And.intro ?_ ?_; focus (first | rfl | decide | (simp; done) | (simp; omega) | omega))) <;> (try conv => whnf)))
          exact fin (.clip lo (lo + hi')) S5 ⟨by omega, by omega, by omega, by omega⟩ rfl (d5.mono (by omega)) (((b12.trans b3).trans b4).trans b5)
      | gate l h =>
        ((try conv => whnf) <;> repeat ((first | (refine Ite.mt ?_ ?_; focus (first | rfl | (simp; done) | (simp; omega))) | (refine Ite.mf ?_ ?_; focus (first | rfl | (simp; done) | (simp; omega))) | (refine And.intro ?_ ?_; focus (first | rfl | decide | (simp; done) | (simp; omega) | omega))) <;> (try conv => whnf)))
        refine ⟨r, _, n + 1 + 1, rfl, d2, by omega, by omega, by omega, fun lo S3 l0 l1 d3 b3 => ?_⟩
        ((try conv => whnf) <;> repeat ((first | (refine Ite.mt ?_ ?_; focus (first | rfl | (simp; done) | (simp; omega))) | (refine Ite.mf ?_ ?_; focus (first | rfl | (simp; done) | (simp; omega))) | (refine And.intro ?_ ?_; focus (first | rfl | decide | (simp; done) | (simp; omega) | omega))) <;> (try conv => whnf)))
        refine ⟨r, _, n + 1 + 1 + 1, rfl, d3, by omega, by omega, by omega, fun hi' S4 h0 h1 d4 b4 => ?_⟩
        ((try conv => whnf) <;> repeat ((first | (refine Ite.mt ?_ ?_; focus (first | rfl | (simp; done) | (simp; omega))) | (refine Ite.mf ?_ ?_; focus (first | rfl | (simp; done) | (simp; omega))) | (refine And.intro ?_ ?_; focus (first | rfl | decide | (simp; done) | (simp; omega) | omega))) <;> (try conv => whnf)))
        refine ⟨r, 4, n + 1 + 1 + 1 + 1, rfl, d4, by omega, by decide, by decide, fun k S5 k0 k1 d5 b5 => ?_⟩
        (conv => whnf)
        refine Ite.intro (fun hc => ?_) (fun hc => ?_)
        · ((try conv => whnf) <;> repeat ((first | (refine Ite.mt ?_ ?_; focus (first | rfl | (simp; done) | (simp; omega))) | (refine Ite.mf ?_ ?_; focus (first | rfl | (simp; done) | (simp; omega))) | (refine And.intro ?_ ?_; focus (first | rfl | decide | (simp; done) | (simp; omega) | omega))) <;> (try conv => whnf)))
          refine ⟨th40 (by omega), ?_⟩
          ((try conv => whnf) <;> repeat ((first | (refine Ite.mt ?_ ?_; focus (first | rfl | (simp; done) | (simp; omega))) | (refine Ite.mf ?_ ?_; focus (first | rfl | (simp; done) | (simp; omega))) | (refine And.intro ?_ ?_; focus (first | rfl | decide | (simp; done) | (simp; omega) | omega))) <;> (try conv => whnf)))
          exact fin0 S5 (d5.mono (by omega)) (((b12.trans b3).trans b4).trans b5)
        · ((try conv => whnf) <;> repeat ((first | (refine Ite.mt ?_ ?_; focus (first | rfl | (simp; done) | (simp; omega))) | (refine Ite.mf ?_ ?_; focus (first | rfl | (simp; done) | (simp; omega))) | (refine And.intro ?_ ?_; focus (first | rfl | decide | (simp; done) | (simp; omega) | omega))) <;> (try conv => whnf)))
          refine ⟨th40 (by simp; omega), ?_⟩
          ((try conv => whnf) <;> repeat ((first | (refine Ite.mt ?_ ?_; focus (first | rfl | (simp; done) | (simp; omega))) | (refine Ite.mf ?_ ?_; focus (first | rfl | (simp; done) | (simp; omega))) | (refine And.intro ?_ ?_; focus (first | rfl | decide | (simp; done) | (simp; omega) | omega))) <;> (try conv => whnf)))
          refine ⟨th40 (by simp; omega), ?_⟩
          ((try conv => whnf) <;> repeat ((first | (refine Ite.mt ?_ ?_; focus (first | rfl | (simp; done) | (simp; omega))) | (refine Ite.mf ?_ ?_; focus (first | rfl | (simp; done) | (simp; omega))) | (refine And.intro ?_ ?_; focus (first | rfl | decide | (simp; done) | (simp; omega) | omega))) <;> (try conv => whnf)))
          exact fin (.gate lo (lo + hi')) S5 ⟨by omega, by omega, by omega, by omega⟩ rfl (d5.mono (by omega)) (((b12.trans b3).trans b4).trans b5)
end VC

set_option Elab.async false
set_option linter.all false
set_option maxRecDepth 100000
set_option maxHeartbeats 4000000
/-! P6: all words of a length; the laws' own first difference. -/
namespace VC
open PySem PySem.Spec PyProof.Rows L2
def ext1 (L : Nat) (w : List Nat) : List (List Nat) := (List.range L).map fun x => w ++ [x]
def words (L : Nat) : Nat → List (List Nat)
  | 0 => [[]]
  | n + 1 => (words L n).flatMap (ext1 L)
theorem words_mem {L : Nat} : ∀ {n : Nat} {w : List Nat}, w ∈ words L n ↔ Wd L w ∧ w.length = n
  | 0, w => by
    simp only [words, List.mem_singleton]
    constructor
    · rintro rfl; exact ⟨Wd.nil, rfl⟩
    · rintro ⟨_, h⟩; exact List.length_eq_zero_iff.mp h
  | n + 1, w => by
    simp only [words, List.mem_flatMap, ext1, List.mem_map, List.mem_range]
    constructor
    · rintro ⟨v, hv, x, hx, rfl⟩
      obtain ⟨h1, h2⟩ := words_mem.mp hv
      exact ⟨Wd.snoc.mpr ⟨h1, hx⟩, by simp [h2]⟩
    · rintro ⟨h1, h2⟩
      rcases snoc_cases w with rfl | ⟨v, x, rfl⟩
      · simp at h2
      · rw [Wd.snoc] at h1
        exact ⟨v, words_mem.mpr ⟨h1.1, by simpa using h2⟩, x, h1.2, rfl⟩
theorem words_len {L : Nat} : ∀ n : Nat, (words L n).length = L ^ n
  | 0 => rfl
  | n + 1 => by
    simp only [words, ext1, List.length_flatMap, List.length_map, List.length_range, List.map_const', List.sum_replicate_nat, words_len n, Nat.pow_succ]
theorem words_srt {L : Nat} : ∀ n : Nat, (words L n).Pairwise fun a b => code L a < code L b
  | 0 => by simp [words]
  | n + 1 => by
    simp only [words]
    have : ∀ l : List (List Nat), (l.Pairwise fun a b => code L a < code L b) → (l.flatMap (ext1 L)).Pairwise fun a b => code L a < code L b := by
      intro l
      induction l with
      | nil => intro _; simp
      | cons a l ih =>
        intro h
        rw [List.pairwise_cons] at h
        rw [List.flatMap_cons, List.pairwise_append]
        refine ⟨?_, ih h.2, fun p hp q hq => ?_⟩
        · unfold ext1
          rw [List.pairwise_map]
          exact List.Pairwise.imp (R := fun a b : Nat => a < b) (fun {x y} h => by rw [code_snoc, code_snoc]; omega) List.pairwise_lt_range
        · obtain ⟨x, hx, rfl⟩ := List.mem_map.mp hp
          obtain ⟨b, hb, hq⟩ := List.mem_flatMap.mp hq
          obtain ⟨y, hy, rfl⟩ := List.mem_map.mp hq
          rw [List.mem_range] at hx
          rw [code_snoc, code_snoc]
          have := Nat.mul_le_mul_left L (show code L a + 1 ≤ code L b from h.1 b hb)
          rw [Nat.mul_add] at this
          omega
    exact this _ (words_srt n)
theorem natsT_snoc (w : List Nat) (x : Nat) : natsT (w ++ [x]) = .tup ((w.map fun (x : Nat) => D.int (x : Int)) ++ [.int (x : Int)]) := by simp [natsT]
def sp__law_all_levels : FSpec := fun ds S R _ => ∃ (t m : Int) (L n : Nat), ds = [.int t, .int m] ∧ t + 1 = (L : Int) ∧ m = (n : Int) ∧ 1 ≤ n ∧ 1 ≤ L ∧ L ≤ 10 ∧ L ^ n ≤ 10000 ∧ n ≤ 100 ∧ R (.val (.lst ((words L n).map natsT))) S
theorem vc__law_all_levels (ds S R) (h : sp__law_all_levels ds S R (fun _ _ => False)) : wf_law_all_levels (ENDS R) (env0 7 ds) S := by
  obtain ⟨t, m, L, n, rfl, et, em, hn, hL, hL1, hp, hn1, q⟩ := h
  have e2 : m.toNat = n := by omega
  have e3 : (t + 1).toNat = L := by omega
  ((try conv => whnf) <;> repeat ((first | (refine Ite.mt ?_ ?_; focus (first | rfl | (simp; done) | (simp; omega))) | (refine Ite.mf ?_ ?_; focus (first | rfl | (simp; done) | (simp; omega))) | (refine And.intro ?_ ?_; focus (first | rfl | decide | (simp; done) | (simp; omega) | omega))) <;> (try conv => whnf)))
  rw [e2]
  refine forW_rng (fun i e s => ∃ (t2 : T) (t3 t4 t5 : Option T), e = [some (.val (.int t)), some (.val (.int m)), some t2, t3, t4, t5, none] ∧ s = S ∧ ((i = 0 ∧ t2 = .own (.lst ((words L i).map natsT))) ∨ (0 < i ∧ t2 = .val (.lst ((words L i).map natsT))))) ?_ ?_ ⟨.own (.lst [.tup []]), none, none, none, rfl, rfl, .inl ⟨rfl, rfl⟩⟩
  · rintro e s ⟨t2, t3, t4, t5, rfl, rfl, ⟨h, _⟩ | ⟨_, rfl⟩⟩
    · omega
    · ((try conv => whnf) <;> repeat ((first | (refine Ite.mt ?_ ?_; focus (first | rfl | (simp; done) | (simp; omega))) | (refine Ite.mf ?_ ?_; focus (first | rfl | (simp; done) | (simp; omega))) | (refine And.intro ?_ ?_; focus (first | rfl | decide | (simp; done) | (simp; omega) | omega))) <;> (try conv => whnf)))
      exact q
  · rintro i e s K hi ⟨t2, t3, t4, t5, rfl, rfl, ht⟩ hK
    have hlen : (words L (i + 1)).length ≤ 10000 := by
      rw [words_len]
      exact Nat.le_trans (Nat.pow_le_pow_right hL hi) hp
    obtain ⟨ws, hws⟩ : ∃ ws, ws = words L i := ⟨_, rfl⟩
    have e1 : words L (i + 1) = ws.flatMap (ext1 L) := by rw [hws]; rfl
    rw [e1] at hlen
    rw [← hws] at ht
    rcases ht with ⟨_, rfl⟩ | ⟨_, rfl⟩ <;> (
      ((try conv => whnf) <;> repeat ((first | (refine Ite.mt ?_ ?_; focus (first | rfl | (simp; done) | (simp; omega))) | (refine Ite.mf ?_ ?_; focus (first | rfl | (simp; done) | (simp; omega))) | (refine And.intro ?_ ?_; focus (first | rfl | decide | (simp; done) | (simp; omega) | omega))) <;> (try conv => whnf)))
      refine forW_map (f := natsT) (fun rem e s' => ∃ (done : List (List Nat)) (t5 : Option T), e = [some (.val (.int t)), some (.val (.int m)), some (.val (.lst (ws.map natsT))), some (.val (.int (0 + (i : Int)))), some (.own (.lst ((done.flatMap (ext1 L)).map natsT))), t5, none] ∧ s' = s ∧ ws = done ++ rem ∧ ∀ w ∈ ws, w.length = i) ?_ ?_ ⟨[], t5, rfl, rfl, rfl, fun w h => (words_mem.mp (by rw [← hws]; exact h)).2⟩
      · rintro e s' ⟨done, t5, rfl, rfl, hd, _⟩
        have hd : ws = done := by simpa using hd
        subst hd
        ((try conv => whnf) <;> repeat ((first | (refine Ite.mt ?_ ?_; focus (first | rfl | (simp; done) | (simp; omega))) | (refine Ite.mf ?_ ?_; focus (first | rfl | (simp; done) | (simp; omega))) | (refine And.intro ?_ ?_; focus (first | rfl | decide | (simp; done) | (simp; omega) | omega))) <;> (try conv => whnf)))
        exact hK _ _ ⟨_, _, _, _, rfl, rfl, .inr ⟨Nat.succ_pos _, by rw [e1]⟩⟩
      · rintro w rem e s' K2 ⟨done, t5, rfl, rfl, hd, hwl⟩ hK2
        have hlen2 : ((done ++ [w]).flatMap (ext1 L)).length ≤ 10000 := by
          rw [hd, show done ++ w :: rem = (done ++ [w]) ++ rem by simp, List.flatMap_append, List.length_append] at hlen
          omega
        have wl := hwl w (by rw [hd]; simp)
        ((try conv => whnf) <;> repeat ((first | (refine Ite.mt ?_ ?_; focus (first | rfl | (simp; done) | (simp; omega))) | (refine Ite.mf ?_ ?_; focus (first | rfl | (simp; done) | (simp; omega))) | (refine And.intro ?_ ?_; focus (first | rfl | decide | (simp; done) | (simp; omega) | omega))) <;> (try conv => whnf)))
        refine ⟨⟨rfl, by rw [rngD_len]; omega⟩, ?_⟩
        rw [e3]
        refine lcW_rng (fun x acc e s'' => acc = ((List.range x).map fun x => w ++ [x]).map natsT ∧ e = [some (.val (.int t)), some (.val (.int m)), some (.val (.lst (ws.map natsT))), some (.val (.int (0 + (i : Int)))), some (.own (.lst ((done.flatMap (ext1 L)).map natsT))), some (.val (natsT w)), none] ∧ s'' = s') ?_ ?_ ⟨rfl, rfl, rfl⟩
        · rintro acc e s'' ⟨rfl, rfl, rfl⟩
          have hl3 : ((done.flatMap (ext1 L)).map natsT ++ ((List.range L).map fun x => w ++ [x]).map natsT).length ≤ 10000 := by
            rw [← List.map_append, List.length_map]
            simpa [List.flatMap_append, ext1] using hlen2
          ((try conv => whnf) <;> repeat ((first | (refine Ite.mt ?_ ?_; focus (first | rfl | (simp; done) | (simp; omega))) | (refine Ite.mf ?_ ?_; focus (first | rfl | (simp; done) | (simp; omega))) | (refine And.intro ?_ ?_; focus (first | rfl | decide | (simp; done) | (simp; omega) | omega))) <;> (try conv => whnf)))
          refine ⟨th40 (by rw [List.length_append] at hl3; omega), ?_⟩
          ((try conv => whnf) <;> repeat ((first | (refine Ite.mt ?_ ?_; focus (first | rfl | (simp; done) | (simp; omega))) | (refine Ite.mf ?_ ?_; focus (first | rfl | (simp; done) | (simp; omega))) | (refine And.intro ?_ ?_; focus (first | rfl | decide | (simp; done) | (simp; omega) | omega))) <;> (try conv => whnf)))
          refine hK2 _ _ ⟨done ++ [w], some (.val (natsT w)), ?_, rfl, by simp [hd], hwl⟩
          rw [List.flatMap_append, List.map_append]
          simp only [List.flatMap_cons, List.flatMap_nil, List.append_nil]
          rfl
        · rintro x acc e s'' K3 hx ⟨rfl, rfl, rfl⟩ hK3
          ((try conv => whnf) <;> repeat ((first | (refine Ite.mt ?_ ?_; focus (first | rfl | (simp; done) | (simp; omega))) | (refine Ite.mf ?_ ?_; focus (first | rfl | (simp; done) | (simp; omega))) | (refine And.intro ?_ ?_; focus (first | rfl | decide | (simp; done) | (simp; omega) | omega))) <;> (try conv => whnf)))
          refine ⟨th40 (by simp; omega), ?_⟩
          refine hK3 _ _ _ ⟨?_, rfl, rfl⟩
          rw [List.range_succ, List.map_append, List.map_append, Int.zero_add]
          simp only [List.map_cons, List.map_nil, natsT_snoc])
theorem natsT_ints (w : List Nat) : natsT w = intsT (wInts w) := by simp [natsT]
theorem ints_lev {c : Chn} (ok : c.Ok) {w : List Nat} (h : Wd c.lev w) : ∀ x ∈ wInts w, Lev c.top x := fun x hx => by
  obtain ⟨i, hi, rfl⟩ := List.mem_map.mp hx
  exact (lev_nat ok).mpr ⟨i, rfl, h i hi⟩
def sp__law_outs : FSpec := fun ds S R _ => ∃ (c : Chn) (w : List Nat), ds = [c.d, natsT w] ∧ c.Ok ∧ Wd c.lev w ∧ w.length ≤ 1000 ∧ R (.val (intsT (outsC c w))) S
theorem vc__law_outs (ds S R) (h : sp__law_outs ds S R (fun _ _ => False)) : wf_law_outs sp__law_ran sp__law_first (ENDS R) (env0 2 ds) S := by
  obtain ⟨c, w, rfl, ok, hw, hl, q⟩ := h
  rw [natsT_ints]
  ((try conv => whnf) <;> repeat ((first | (refine Ite.mt ?_ ?_; focus (first | rfl | (simp; done) | (simp; omega))) | (refine Ite.mf ?_ ?_; focus (first | rfl | (simp; done) | (simp; omega))) | (refine And.intro ?_ ?_; focus (first | rfl | decide | (simp; done) | (simp; omega) | omega))) <;> (try conv => whnf)))
  refine ⟨c, rfl, ok, ?_⟩
  ((try conv => whnf) <;> repeat ((first | (refine Ite.mt ?_ ?_; focus (first | rfl | (simp; done) | (simp; omega))) | (refine Ite.mf ?_ ?_; focus (first | rfl | (simp; done) | (simp; omega))) | (refine And.intro ?_ ?_; focus (first | rfl | decide | (simp; done) | (simp; omega) | omega))) <;> (try conv => whnf)))
  refine ⟨c, c.first, wInts w, rfl, c.first_ok ok, by have := ok.len; omega, ok.ok, ints_lev ok hw, by simp; omega, ?_⟩
  ((try conv => whnf) <;> repeat ((first | (refine Ite.mt ?_ ?_; focus (first | rfl | (simp; done) | (simp; omega))) | (refine Ite.mf ?_ ?_; focus (first | rfl | (simp; done) | (simp; omega))) | (refine And.intro ?_ ?_; focus (first | rfl | decide | (simp; done) | (simp; omega) | omega))) <;> (try conv => whnf)))
  exact q
theorem ok_ints (l : List Int) : okd (intsT l) 2 = true := by
  simp only [okd]
  exact okds_of fun d hd => by
    obtain ⟨s, _, rfl⟩ := List.mem_map.mp hd
    rfl
theorem intsT_inj {a b : List Int} (h : intsT a = intsT b) : a = b := by
  have : Function.Injective D.int := fun x y h => by cases h; rfl
  exact (List.map_inj_right this).mp (D.tup.inj h)
def sp__law_first_apart : FSpec := fun ds S R _ => ∃ (c c' : Chn) (m : Int) (n : Nat), ds = [c.d, c'.d, .int m] ∧ c.Ok ∧ c'.Ok ∧ c.top = c'.top ∧ m = (n : Int) ∧ n ≤ 100 ∧ c.lev ^ n ≤ 10000 ∧
  ((∀ w, Wd c.lev w → w.length ≤ n → SameC c c' w) → R (.val .non) S) ∧ (∀ w, LeastC c c' w → w.length ≤ n → R (.val (natsT w)) S)
theorem vc__law_first_apart (ds S R) (h : sp__law_first_apart ds S R (fun _ _ => False)) : wf_law_first_apart sp__law_all_levels sp__law_outs (ENDS R) (env0 5 ds) S := by
  obtain ⟨c, c', m, n, rfl, ok, ok', e, em, hn, hp, q1, q2⟩ := h
  ((try conv => whnf) <;> repeat ((first | (refine Ite.mt ?_ ?_; focus (first | rfl | (simp; done) | (simp; omega))) | (refine Ite.mf ?_ ?_; focus (first | rfl | (simp; done) | (simp; omega))) | (refine And.intro ?_ ?_; focus (first | rfl | decide | (simp; done) | (simp; omega) | omega))) <;> (try conv => whnf)))
  refine forW_rng (fun i e s => ∃ t3 t4 : Option T, e = [some (.val c.d), some (.val c'.d), some (.val (.int m)), t3, t4] ∧ s = S ∧ ∀ w, Wd c.lev w → w.length ≤ i → SameC c c' w) ?_ ?_ ⟨none, none, rfl, rfl, fun w _ hl => by rw [List.length_eq_zero_iff.mp (Nat.le_zero.mp hl)]; rfl⟩
  · rintro e s ⟨t3, t4, rfl, rfl, h⟩
    ((try conv => whnf) <;> repeat ((first | (refine Ite.mt ?_ ?_; focus (first | rfl | (simp; done) | (simp; omega))) | (refine Ite.mf ?_ ?_; focus (first | rfl | (simp; done) | (simp; omega))) | (refine And.intro ?_ ?_; focus (first | rfl | decide | (simp; done) | (simp; omega) | omega))) <;> (try conv => whnf)))
    exact q1 fun w hw hl => h w hw (by omega)
  · rintro i e s K hi ⟨t3, t4, rfl, rfl, h⟩ hK
    have hi : i < n := by omega
    have l0 := lev_pos ok
    have l6 := lev6 ok
    have hp1 : c.lev ^ (i + 1) ≤ 10000 := Nat.le_trans (Nat.pow_le_pow_right l0 hi) hp
    have ce : c.top + 1 = (c.lev : Int) := by have := ok.t1; unfold Chn.lev; omega
    ((try conv => whnf) <;> repeat ((first | (refine Ite.mt ?_ ?_; focus (first | rfl | (simp; done) | (simp; omega))) | (refine Ite.mf ?_ ?_; focus (first | rfl | (simp; done) | (simp; omega))) | (refine And.intro ?_ ?_; focus (first | rfl | decide | (simp; done) | (simp; omega) | omega))) <;> (try conv => whnf)))
    refine ⟨c.top, _, c.lev, i + 1, rfl, ce, by push_cast; omega, by omega, l0, by omega, hp1, by omega, ?_⟩
    obtain ⟨ws, hws⟩ : ∃ ws, ws = words c.lev (i + 1) := ⟨_, rfl⟩
    have srt := words_srt (L := c.lev) (i + 1)
    rw [← hws] at srt ⊢
    ((try conv => whnf) <;> repeat ((first | (refine Ite.mt ?_ ?_; focus (first | rfl | (simp; done) | (simp; omega))) | (refine Ite.mf ?_ ?_; focus (first | rfl | (simp; done) | (simp; omega))) | (refine And.intro ?_ ?_; focus (first | rfl | decide | (simp; done) | (simp; omega) | omega))) <;> (try conv => whnf)))
    refine forW_map (f := natsT) (fun rem e s' => ∃ (done : List (List Nat)) (t4 : Option T), e = [some (.val c.d), some (.val c'.d), some (.val (.int m)), some (.val (.int (1 + (i : Int)))), t4] ∧ s' = s ∧ ws = done ++ rem ∧ ∀ w ∈ done, SameC c c' w) ?_ ?_ ⟨[], t4, rfl, rfl, rfl, fun w h => by simp at h⟩
    · rintro e s' ⟨done, t4, rfl, rfl, hd, hs⟩
      have hd : ws = done := by simpa using hd
      subst hd
      refine hK _ _ ⟨_, _, rfl, rfl, fun w hw hl => ?_⟩
      by_cases hl2 : w.length ≤ i
      · exact h w hw hl2
      · exact hs w (by rw [hws]; exact words_mem.mpr ⟨hw, by omega⟩)
    · rintro w rem e s' K2 ⟨done, t4, rfl, rfl, hd, hs⟩ hK2
      obtain ⟨hw, hwl⟩ := words_mem.mp (show w ∈ words c.lev (i + 1) by rw [← hws, hd]; simp)
      ((try conv => whnf) <;> repeat ((first | (refine Ite.mt ?_ ?_; focus (first | rfl | (simp; done) | (simp; omega))) | (refine Ite.mf ?_ ?_; focus (first | rfl | (simp; done) | (simp; omega))) | (refine And.intro ?_ ?_; focus (first | rfl | decide | (simp; done) | (simp; omega) | omega))) <;> (try conv => whnf)))
      refine ⟨c, w, rfl, ok, hw, by omega, ?_⟩
      ((try conv => whnf) <;> repeat ((first | (refine Ite.mt ?_ ?_; focus (first | rfl | (simp; done) | (simp; omega))) | (refine Ite.mf ?_ ?_; focus (first | rfl | (simp; done) | (simp; omega))) | (refine And.intro ?_ ?_; focus (first | rfl | decide | (simp; done) | (simp; omega) | omega))) <;> (try conv => whnf)))
      refine ⟨c', w, rfl, ok', by rw [lev_eq e]; exact hw, by omega, ?_⟩
      ((try conv => whnf) <;> repeat ((first | (refine Ite.mt ?_ ?_; focus (first | rfl | (simp; done) | (simp; omega))) | (refine Ite.mf ?_ ?_; focus (first | rfl | (simp; done) | (simp; omega))) | (refine And.intro ?_ ?_; focus (first | rfl | decide | (simp; done) | (simp; omega) | omega))) <;> (try conv => whnf)))
      refine ⟨⟨okd_cmp (ok_ints _), okd_cmp (ok_ints _)⟩, ?_⟩
      have key := eqv_iff _ _ _ _ (ok_ints (outsC c w)) (ok_ints (outsC c' w))
      (conv => whnf)
      refine Ite.intro (fun hc => ?_) (fun hc => ?_)
      · have hne : ¬ SameC c c' w := fun h => by
          have hc : (!D.eqv (intsT (outsC c w)) (intsT (outsC c' w))) = true := hc
          rw [key.mpr (by rw [show outsC c w = outsC c' w from h])] at hc
          cases hc
        ((try conv => whnf) <;> repeat ((first | (refine Ite.mt ?_ ?_; focus (first | rfl | (simp; done) | (simp; omega))) | (refine Ite.mf ?_ ?_; focus (first | rfl | (simp; done) | (simp; omega))) | (refine And.intro ?_ ?_; focus (first | rfl | decide | (simp; done) | (simp; omega) | omega))) <;> (try conv => whnf)))
        refine q2 w ⟨hw, hne, fun v hv hlt => ?_⟩ (by omega)
        rcases Nat.lt_trichotomy v.length w.length with hl | hl | hl
        · exact h v hv (by omega)
        · have hv2 : v ∈ ws := by rw [hws]; exact words_mem.mpr ⟨hv, by omega⟩
          rw [hd] at hv2 srt
          rcases List.mem_append.mp hv2 with h2 | h2
          · exact hs v h2
          · rw [List.pairwise_append, List.pairwise_cons] at srt
            rcases List.mem_cons.mp h2 with rfl | h2
            · omega
            · have := srt.2.1.1 v h2; omega
        · have := code_len l0 hw hv hl; omega
      · have heq : SameC c c' w := by
          have hc : (!D.eqv (intsT (outsC c w)) (intsT (outsC c' w))) = false := hc
          exact intsT_inj (key.mp (by simpa using hc))
        (refine wnil_i ?_; dsimp only)
        exact hK2 _ _ ⟨done ++ [w], _, rfl, rfl, by simp [hd], fun v hv => by
          rcases List.mem_append.mp hv with h2 | h2
          · exact hs v h2
          · rw [List.mem_singleton.mp h2]; exact heq⟩
end VC

set_option Elab.async false
set_option linter.all false
set_option maxRecDepth 100000
set_option maxHeartbeats 4000000
/-! P7: the law k04. -/
namespace VC
open PySem PySem.Spec PyProof.Rows L2
theorem tab_len {c : Chn} {F o p : List (List Mem)} (h : Tab c F o) (n : p.Nodup) (i : ∀ m, m ∈ p ↔ Rch c F m) : o.length = p.length := (perm_of h.nd n fun m => h.iff.trans (i m).symm).length_eq
theorem nats_eq {w v : List Nat} : D.eqv (natsT w) (natsT v) = decide (w = v) := by
  have h := eqv_iff _ _ _ _ (ok_ints (wInts w)) (ok_ints (wInts v))
  rw [← natsT_ints, ← natsT_ints] at h
  by_cases e : w = v
  · subst e
    rw [decide_eq_true rfl]; exact h.mpr rfl
  · rw [decide_eq_false e]
    cases q : D.eqv (natsT w) (natsT v) with
    | false => rfl
    | true =>
      have := h.mp q
      rw [natsT_ints, natsT_ints] at this
      have i : Function.Injective fun x : Nat => (x : Int) := fun x y h => Int.natCast_inj.mp h
      exact (e ((List.map_inj_right i).mp (intsT_inj this))).elim
theorem cmp_nats (w : List Nat) : (natsT w).cmp = true := by rw [natsT_ints]; exact okd_cmp (ok_ints _)
theorem same_rfl {c : Chn} {w : List Nat} : SameC c c w := rfl
theorem pr_self {c : Chn} (ok : c.Ok) (h : c.top ≤ 4) : Pr c c := ⟨ok, ok, rfl, sm_top ok ok h h⟩
theorem bl_tf : D.eqv (.bl true) (.bl false) = false := rfl
def h1c : Chn := ⟨1, 0, [.hold 1]⟩
def h2c : Chn := ⟨1, 0, [.hold 2]⟩
theorem h1_ok : h1c.Ok := ⟨by decide, by decide, by decide, by decide, by decide, fun s hs => by simp [h1c] at hs; subst hs; exact ⟨by decide, by decide⟩, by decide⟩
theorem h2_ok : h2c.Ok := ⟨by decide, by decide, by decide, by decide, by decide, fun s hs => by simp [h2c] at hs; subst hs; exact ⟨by decide, by decide⟩, by decide⟩
theorem h_len {c : Chn} (ok : c.Ok) {p o : List (List Mem)} (h : tabChk c p = true) (ho : Tab c [c.first] o) : o.length = p.length := by
  have := tab_of ok h
  exact tab_len ho this.nd fun m => this.iff
theorem h_wd : Wd h1c.lev [1, 0, 0] := show ∀ x ∈ [1, 0, 0], x < h1c.lev by decide
theorem h_least : LeastC h1c h2c [1, 0, 0] := by
  refine ⟨h_wd, fun h => ?_, fun v hv hc => ?_⟩
  · revert h; show ¬ outsC h1c [1, 0, 0] = outsC h2c [1, 0, 0]; decide +kernel
  · have hl : v.length ≤ 3 := Nat.le_of_not_lt fun h => by
      have := code_len (L := h1c.lev) (by decide) (w := [1, 0, 0]) (v := v) h_wd hv h
      omega
    have hm := words_mem.mpr ⟨hv, rfl⟩
    have key : ∀ n, n ≤ 3 → ∀ v ∈ words h1c.lev n, code h1c.lev v < code h1c.lev [1, 0, 0] → outsC h1c v = outsC h2c v := by decide +kernel
    exact key _ hl v hm hc
theorem mo__law_one : MoF sp__law_one := by (intro ds S R R' E i; repeat (first | exact i _ _ | (refine Exists.imp fun _ => ?_) | (refine And.imp_right ?_) | (intro f x; refine (show _ → _ from ?_) (f x))))
theorem mo__law_bent : MoF sp__law_bent := by (intro ds S R R' E i; repeat (first | exact i _ _ | (refine Exists.imp fun _ => ?_) | (refine And.imp_right ?_) | (intro f x; refine (show _ → _ from ?_) (f x))))
theorem mo__law_all_levels : MoF sp__law_all_levels := by (intro ds S R R' E i; repeat (first | exact i _ _ | (refine Exists.imp fun _ => ?_) | (refine And.imp_right ?_) | (intro f x; refine (show _ → _ from ?_) (f x))))
theorem mo__law_outs : MoF sp__law_outs := by (intro ds S R R' E i; repeat (first | exact i _ _ | (refine Exists.imp fun _ => ?_) | (refine And.imp_right ?_) | (intro f x; refine (show _ → _ from ?_) (f x))))
theorem mo__law_first_apart : MoF sp__law_first_apart := by
  intro ds S R R' E i
  rintro ⟨c, c', m, n, a1, a2, a3, a4, a5, a6, a7, a9, a10⟩
  exact ⟨c, c', m, n, a1, a2, a3, a4, a5, a6, a7, fun h => i _ _ (a9 h), fun w l h => i _ _ (a10 w l h)⟩
theorem vc_law_k04 (ds S R) (h : sp_law0 ds S R (fun _ _ => False)) : wf_law_k04 sp_parting_signal sp_bound sp_alike sp__law_bool sp__law_first_apart sp__law_table sp__law_first sp__law_bent sp__law_chain sp__law_deck (ENDS R) (env0 10 ds) S := by
  obtain ⟨rfl, ns, rfl, hn, q⟩ := h
  ((try conv => whnf) <;> repeat ((first | (refine Ite.mt ?_ ?_; focus (first | rfl | (simp; done) | (simp; omega))) | (refine Ite.mf ?_ ?_; focus (first | rfl | (simp; done) | (simp; omega))) | (refine And.intro ?_ ?_; focus (first | rfl | decide | (simp; done) | (simp; omega) | omega))) <;> (try conv => whnf)))
  refine forW_rng (fun i e s => ∃ t1 t2 t3 t4 t5 t6 t7 t8 t9 : Option T, e = [some (.val (.kst (ns.map D.int))), t1, t2, t3, t4, t5, t6, t7, t8, t9]) ?_ ?_ ⟨_, _, _, _, _, _, _, _, _, rfl⟩
  · rintro e s ⟨t1, t2, t3, t4, t5, t6, t7, t8, t9, rfl⟩
    ((try conv => whnf) <;> repeat ((first | (refine Ite.mt ?_ ?_; focus (first | rfl | (simp; done) | (simp; omega))) | (refine Ite.mf ?_ ?_; focus (first | rfl | (simp; done) | (simp; omega))) | (refine And.intro ?_ ?_; focus (first | rfl | decide | (simp; done) | (simp; omega) | omega))) <;> (try conv => whnf)))
    refine ⟨h1c, h2c, rfl, ⟨h1_ok, h2_ok, rfl, sm_top h1_ok h2_ok (by decide) (by decide)⟩, fun h => (h_least.ne (h _ h_wd)).elim, fun w l => ?_⟩
    have := l.eq h_least
    subst this
    ((try conv => whnf) <;> repeat ((first | (refine Ite.mt ?_ ?_; focus (first | rfl | (simp; done) | (simp; omega))) | (refine Ite.mf ?_ ?_; focus (first | rfl | (simp; done) | (simp; omega))) | (refine And.intro ?_ ?_; focus (first | rfl | decide | (simp; done) | (simp; omega) | omega))) <;> (try conv => whnf)))
    refine ⟨⟨cmp_nats _, cmp_nats [1, 0, 0]⟩, ?_⟩
    (conv => whnf)
    refine Ite.mt (show D.eqv (natsT [1, 0, 0]) (natsT [1, 0, 0]) = true from nats_eq.trans rfl) ?_
    ((try conv => whnf) <;> repeat ((first | (refine Ite.mt ?_ ?_; focus (first | rfl | (simp; done) | (simp; omega))) | (refine Ite.mf ?_ ?_; focus (first | rfl | (simp; done) | (simp; omega))) | (refine And.intro ?_ ?_; focus (first | rfl | decide | (simp; done) | (simp; omega) | omega))) <;> (try conv => whnf)))
    refine ⟨h1c, h2c, rfl, h1_ok, h2_ok, rfl, fun o o' ho ho' => ?_⟩
    rw [h_len h1_ok (p := [[.two 0 0], [.two 1 1], [.two 1 0], [.two 0 1]]) (by decide +kernel) ho.toTab, h_len h2_ok (p := [[.two 0 0], [.two 1 2], [.two 1 1], [.two 1 0], [.two 0 2], [.two 0 1]]) (by decide +kernel) ho'.toTab]
    ((try conv => whnf) <;> repeat ((first | (refine Ite.mt ?_ ?_; focus (first | rfl | (simp; done) | (simp; omega))) | (refine Ite.mf ?_ ?_; focus (first | rfl | (simp; done) | (simp; omega))) | (refine And.intro ?_ ?_; focus (first | rfl | decide | (simp; done) | (simp; omega) | omega))) <;> (try conv => whnf)))
    exact q _
  · rintro i e s K hi ⟨t1, t2, t3, t4, t5, t6, t7, t8, t9, rfl⟩ hK
    ((try conv => whnf) <;> repeat ((first | (refine Ite.mt ?_ ?_; focus (first | rfl | (simp; done) | (simp; omega))) | (refine Ite.mf ?_ ?_; focus (first | rfl | (simp; done) | (simp; omega))) | (refine And.intro ?_ ?_; focus (first | rfl | decide | (simp; done) | (simp; omega) | omega))) <;> (try conv => whnf)))
    obtain ⟨x, hx⟩ := script_at ns 5 i hi
    refine ⟨th40 (by simp; omega), ?_⟩
    ((try conv => whnf) <;> repeat ((first | (refine Ite.mt ?_ ?_; focus (first | rfl | (simp; done) | (simp; omega))) | (refine Ite.mf ?_ ?_; focus (first | rfl | (simp; done) | (simp; omega))) | (refine And.intro ?_ ?_; focus (first | rfl | decide | (simp; done) | (simp; omega) | omega))) <;> (try conv => whnf)))
    rw [hx]
    ((try conv => whnf) <;> repeat ((first | (refine Ite.mt ?_ ?_; focus (first | rfl | (simp; done) | (simp; omega))) | (refine Ite.mf ?_ ?_; focus (first | rfl | (simp; done) | (simp; omega))) | (refine And.intro ?_ ?_; focus (first | rfl | decide | (simp; done) | (simp; omega) | omega))) <;> (try conv => whnf)))
    refine ⟨x, _, rfl, by omega, fun m hm => ?_⟩
    ((try conv => whnf) <;> repeat ((first | (refine Ite.mt ?_ ?_; focus (first | rfl | (simp; done) | (simp; omega))) | (refine Ite.mf ?_ ?_; focus (first | rfl | (simp; done) | (simp; omega))) | (refine And.intro ?_ ?_; focus (first | rfl | decide | (simp; done) | (simp; omega) | omega))) <;> (try conv => whnf)))
    refine forW_rng (fun j e S => ∃ t3 t4 t5 t6 t7 t8 t9 : Option T, e = [some (.val (.kst (ns.map D.int))), some (.val (.int (0 + (i : Int)))), some (.val (.ref s.length)), t3, t4, t5, t6, t7, t8, t9] ∧ Deck (1000 * (j : Int) + 100) s.length S) ?_ ?_ ⟨_, _, _, _, _, _, _, rfl, ⟨m, by simp, by obtain ⟨a, b, c, e, h1, h2, h3, h4⟩ := hm; exact ⟨a, b, c, e, h1, h2, h3, by omega⟩⟩⟩
    · rintro e S ⟨t3, t4, t5, t6, t7, t8, t9, rfl, _⟩
      ((try conv => whnf) <;> repeat ((first | (refine Ite.mt ?_ ?_; focus (first | rfl | (simp; done) | (simp; omega))) | (refine Ite.mf ?_ ?_; focus (first | rfl | (simp; done) | (simp; omega))) | (refine And.intro ?_ ?_; focus (first | rfl | decide | (simp; done) | (simp; omega) | omega))) <;> (try conv => whnf)))
      exact hK _ _ ⟨_, _, _, _, _, _, _, _, _, rfl⟩
    · rintro j e S K2 hj ⟨t3, t4, t5, t6, t7, t8, t9, rfl, dk⟩ hK2
      ((try conv => whnf) <;> repeat ((first | (refine Ite.mt ?_ ?_; focus (first | rfl | (simp; done) | (simp; omega))) | (refine Ite.mf ?_ ?_; focus (first | rfl | (simp; done) | (simp; omega))) | (refine And.intro ?_ ?_; focus (first | rfl | decide | (simp; done) | (simp; omega) | omega))) <;> (try conv => whnf)))
      refine ⟨_, _, _, _, rfl, dk, by omega, by omega, by omega, by omega, by omega, fun c S1 ok ct cs d1 b1 => ?_⟩
      ((try conv => whnf) <;> repeat ((first | (refine Ite.mt ?_ ?_; focus (first | rfl | (simp; done) | (simp; omega))) | (refine Ite.mf ?_ ?_; focus (first | rfl | (simp; done) | (simp; omega))) | (refine And.intro ?_ ?_; focus (first | rfl | decide | (simp; done) | (simp; omega) | omega))) <;> (try conv => whnf)))
      refine ⟨_, c, _, rfl, ok, d1, by omega, fun c' S2 ok' e' cs' d2 b2 => ?_⟩
      have t1 := ok.t1
      have sm : Sm c c' := sm_top ok ok' (by omega) (by omega)
      have sm' : Sm c' c := sm_top ok' ok (by omega) (by omega)
      ((try conv => whnf) <;> repeat ((first | (refine Ite.mt ?_ ?_; focus (first | rfl | (simp; done) | (simp; omega))) | (refine Ite.mf ?_ ?_; focus (first | rfl | (simp; done) | (simp; omega))) | (refine And.intro ?_ ?_; focus (first | rfl | decide | (simp; done) | (simp; omega) | omega))) <;> (try conv => whnf)))
      refine ⟨c, rfl, ok, ?_⟩
      ((try conv => whnf) <;> repeat ((first | (refine Ite.mt ?_ ?_; focus (first | rfl | (simp; done) | (simp; omega))) | (refine Ite.mf ?_ ?_; focus (first | rfl | (simp; done) | (simp; omega))) | (refine And.intro ?_ ?_; focus (first | rfl | decide | (simp; done) | (simp; omega) | omega))) <;> (try conv => whnf)))
      refine ⟨c, [c.first], rfl, ok, first_fits ok, by simp, fun p pn pi pl => ?_⟩
      ((try conv => whnf) <;> repeat ((first | (refine Ite.mt ?_ ?_; focus (first | rfl | (simp; done) | (simp; omega))) | (refine Ite.mf ?_ ?_; focus (first | rfl | (simp; done) | (simp; omega))) | (refine And.intro ?_ ?_; focus (first | rfl | decide | (simp; done) | (simp; omega) | omega))) <;> (try conv => whnf)))
      refine ⟨c', rfl, ok', ?_⟩
      ((try conv => whnf) <;> repeat ((first | (refine Ite.mt ?_ ?_; focus (first | rfl | (simp; done) | (simp; omega))) | (refine Ite.mf ?_ ?_; focus (first | rfl | (simp; done) | (simp; omega))) | (refine And.intro ?_ ?_; focus (first | rfl | decide | (simp; done) | (simp; omega) | omega))) <;> (try conv => whnf)))
      refine ⟨c', [c'.first], rfl, ok', first_fits ok', by simp, fun p' pn' pi' pl' => ?_⟩
      ((try conv => whnf) <;> repeat ((first | (refine Ite.mt ?_ ?_; focus (first | rfl | (simp; done) | (simp; omega))) | (refine Ite.mf ?_ ?_; focus (first | rfl | (simp; done) | (simp; omega))) | (refine And.intro ?_ ?_; focus (first | rfl | decide | (simp; done) | (simp; omega) | omega))) <;> (try conv => whnf)))
      refine ⟨c, c', rfl, ok, ok', e'.symm, fun o o' ho ho' => ?_⟩
      have ol := tab_len ho.toTab pn pi
      have ol' := tab_len ho'.toTab pn' pi'
      ((try conv => whnf) <;> repeat ((first | (refine Ite.mt ?_ ?_; focus (first | rfl | (simp; done) | (simp; omega))) | (refine Ite.mf ?_ ?_; focus (first | rfl | (simp; done) | (simp; omega))) | (refine And.intro ?_ ?_; focus (first | rfl | decide | (simp; done) | (simp; omega) | omega))) <;> (try conv => whnf)))
      refine ⟨c', c, rfl, ok', ok, e', fun o2 o2' ho2 ho2' => ?_⟩
      have ol2 := tab_len ho2.toTab pn' pi'
      have ol2' := tab_len ho2'.toTab pn pi
      have pos := ho.toTab.pos
      have pos' := ho'.toTab.pos
      have pw : ∀ b : Nat, c.lev ^ b ≤ 10000 → c.lev ^ (min b (p.length + p'.length - 1)) ≤ 10000 := fun b h => Nat.le_trans (Nat.pow_le_pow_right (lev_pos ok) (Nat.min_le_left _ _)) h
      have hb : (c.top = 1 → c.lev ^ 8 ≤ 10000) ∧ c.lev ^ 5 ≤ 10000 := by
        have : c.lev = 2 ∨ c.lev = 3 := by unfold Chn.lev; omega
        refine ⟨fun h => ?_, ?_⟩
        · have : c.lev = 2 := by unfold Chn.lev; omega
          rw [this]; decide
        · rcases this with h | h <;> rw [h] <;> decide
      have pr : Pr c c' := ⟨ok, ok', e'.symm, sm⟩
      ((try conv => whnf) <;> repeat ((first | (refine Ite.mt ?_ ?_; focus (first | rfl | (simp; done) | (simp; omega))) | (refine Ite.mf ?_ ?_; focus (first | rfl | (simp; done) | (simp; omega))) | (refine And.intro ?_ ?_; focus (first | rfl | decide | (simp; done) | (simp; omega) | omega))) <;> (try conv => whnf)))
      refine Ite.intro (fun hc => ?_) (fun hc => ?_)
      · ((try conv => whnf) <;> repeat ((first | (refine Ite.mt ?_ ?_; focus (first | rfl | (simp; done) | (simp; omega))) | (refine Ite.mf ?_ ?_; focus (first | rfl | (simp; done) | (simp; omega))) | (refine And.intro ?_ ?_; focus (first | rfl | decide | (simp; done) | (simp; omega) | omega))) <;> (try conv => whnf)))
        refine ⟨c, c', _, min 8 (p.length + p'.length - 1), rfl, ok, ok', e'.symm, ?_, by omega, pw 8 (hb.1 (by simpa using hc)), fun hall => ?_, fun w lw hwl => ?_⟩
        · simp only [List.length_map]; split <;> omega
        · ((try conv => whnf) <;> repeat ((first | (refine Ite.mt ?_ ?_; focus (first | rfl | (simp; done) | (simp; omega))) | (refine Ite.mf ?_ ?_; focus (first | rfl | (simp; done) | (simp; omega))) | (refine And.intro ?_ ?_; focus (first | rfl | decide | (simp; done) | (simp; omega) | omega))) <;> (try conv => whnf)))
          refine Ite.intro (fun hd => ?_) (fun hd => ?_)
          · have hd : decide ((if (8 : Int) < ((p.map memsT).length : Int) + ((p'.map memsT).length : Int) - 1 then 8 else ((p.map memsT).length : Int) + ((p'.map memsT).length : Int) - 1) = ((p.map memsT).length : Int) + ((p'.map memsT).length : Int) - 1) = true := hd
            have nol : ∀ w, ¬ LeastC c c' w := fun w l => by
              have h1 := least_C_len ok ok' e'.symm ho.toTab ho'.toTab l
              refine l.ne (hall w l.wd ?_)
              simp only [List.length_map, decide_eq_true_eq] at hd
              split at hd <;> omega
            ((try conv => whnf) <;> repeat ((first | (refine Ite.mt ?_ ?_; focus (first | rfl | (simp; done) | (simp; omega))) | (refine Ite.mf ?_ ?_; focus (first | rfl | (simp; done) | (simp; omega))) | (refine And.intro ?_ ?_; focus (first | rfl | decide | (simp; done) | (simp; omega) | omega))) <;> (try conv => whnf)))
            refine ⟨c, c', rfl, pr, fun _ => ?_, fun w l => (nol w l).elim⟩
            ((try conv => whnf) <;> repeat ((first | (refine Ite.mt ?_ ?_; focus (first | rfl | (simp; done) | (simp; omega))) | (refine Ite.mf ?_ ?_; focus (first | rfl | (simp; done) | (simp; omega))) | (refine And.intro ?_ ?_; focus (first | rfl | decide | (simp; done) | (simp; omega) | omega))) <;> (try conv => whnf)))
            refine ⟨⟨rfl, rfl⟩, ?_⟩
            ((try conv => whnf) <;> repeat ((first | (refine Ite.mt ?_ ?_; focus (first | rfl | (simp; done) | (simp; omega))) | (refine Ite.mf ?_ ?_; focus (first | rfl | (simp; done) | (simp; omega))) | (refine And.intro ?_ ?_; focus (first | rfl | decide | (simp; done) | (simp; omega) | omega))) <;> (try conv => whnf)))
            refine ⟨c, c', rfl, pr, fun _ => ?_, fun w l => (nol w l).elim⟩
            ((try conv => whnf) <;> repeat ((first | (refine Ite.mt ?_ ?_; focus (first | rfl | (simp; done) | (simp; omega))) | (refine Ite.mf ?_ ?_; focus (first | rfl | (simp; done) | (simp; omega))) | (refine And.intro ?_ ?_; focus (first | rfl | decide | (simp; done) | (simp; omega) | omega))) <;> (try conv => whnf)))
            refine ⟨true, true, rfl, ?_⟩
            ((try conv => whnf) <;> repeat ((first | (refine Ite.mt ?_ ?_; focus (first | rfl | (simp; done) | (simp; omega))) | (refine Ite.mf ?_ ?_; focus (first | rfl | (simp; done) | (simp; omega))) | (refine And.intro ?_ ?_; focus (first | rfl | decide | (simp; done) | (simp; omega) | omega))) <;> (try conv => whnf)))
            refine ⟨c, c, rfl, pr_self ok (by omega), fun _ => ?_, fun w l => (l.ne same_rfl).elim⟩
            ((try conv => whnf) <;> repeat ((first | (refine Ite.mt ?_ ?_; focus (first | rfl | (simp; done) | (simp; omega))) | (refine Ite.mf ?_ ?_; focus (first | rfl | (simp; done) | (simp; omega))) | (refine And.intro ?_ ?_; focus (first | rfl | decide | (simp; done) | (simp; omega) | omega))) <;> (try conv => whnf)))
            refine ⟨c', c', rfl, pr_self ok' (by omega), fun _ => ?_, fun w l => (l.ne same_rfl).elim⟩
            ((try conv => whnf) <;> repeat ((first | (refine Ite.mt ?_ ?_; focus (first | rfl | (simp; done) | (simp; omega))) | (refine Ite.mf ?_ ?_; focus (first | rfl | (simp; done) | (simp; omega))) | (refine And.intro ?_ ?_; focus (first | rfl | decide | (simp; done) | (simp; omega) | omega))) <;> (try conv => whnf)))
            exact hK2 _ _ ⟨_, _, _, _, _, _, _, rfl, d2.mono (by push_cast; omega)⟩
          · ((try conv => whnf) <;> repeat ((first | (refine Ite.mt ?_ ?_; focus (first | rfl | (simp; done) | (simp; omega))) | (refine Ite.mf ?_ ?_; focus (first | rfl | (simp; done) | (simp; omega))) | (refine And.intro ?_ ?_; focus (first | rfl | decide | (simp; done) | (simp; omega) | omega))) <;> (try conv => whnf)))
            refine ⟨c, c, rfl, pr_self ok (by omega), fun _ => ?_, fun w l => (l.ne same_rfl).elim⟩
            ((try conv => whnf) <;> repeat ((first | (refine Ite.mt ?_ ?_; focus (first | rfl | (simp; done) | (simp; omega))) | (refine Ite.mf ?_ ?_; focus (first | rfl | (simp; done) | (simp; omega))) | (refine And.intro ?_ ?_; focus (first | rfl | decide | (simp; done) | (simp; omega) | omega))) <;> (try conv => whnf)))
            refine ⟨c', c', rfl, pr_self ok' (by omega), fun _ => ?_, fun w l => (l.ne same_rfl).elim⟩
            ((try conv => whnf) <;> repeat ((first | (refine Ite.mt ?_ ?_; focus (first | rfl | (simp; done) | (simp; omega))) | (refine Ite.mf ?_ ?_; focus (first | rfl | (simp; done) | (simp; omega))) | (refine And.intro ?_ ?_; focus (first | rfl | decide | (simp; done) | (simp; omega) | omega))) <;> (try conv => whnf)))
            exact hK2 _ _ ⟨_, _, _, _, _, _, _, rfl, d2.mono (by push_cast; omega)⟩
        · ((try conv => whnf) <;> repeat ((first | (refine Ite.mt ?_ ?_; focus (first | rfl | (simp; done) | (simp; omega))) | (refine Ite.mf ?_ ?_; focus (first | rfl | (simp; done) | (simp; omega))) | (refine And.intro ?_ ?_; focus (first | rfl | decide | (simp; done) | (simp; omega) | omega))) <;> (try conv => whnf)))
          refine ⟨c, c', rfl, pr, fun h => (lw.ne (h w lw.wd)).elim, fun v lv => ?_⟩
          have := lv.eq lw
          subst this
          ((try conv => whnf) <;> repeat ((first | (refine Ite.mt ?_ ?_; focus (first | rfl | (simp; done) | (simp; omega))) | (refine Ite.mf ?_ ?_; focus (first | rfl | (simp; done) | (simp; omega))) | (refine And.intro ?_ ?_; focus (first | rfl | decide | (simp; done) | (simp; omega) | omega))) <;> (try conv => whnf)))
          refine ⟨⟨cmp_nats _, cmp_nats _⟩, ?_⟩
          (conv => whnf)
          refine Ite.mf (show (!D.eqv (natsT v) (natsT v)) = false by rw [nats_eq, decide_eq_true rfl]; rfl) ?_
          ((try conv => whnf) <;> repeat ((first | (refine Ite.mt ?_ ?_; focus (first | rfl | (simp; done) | (simp; omega))) | (refine Ite.mf ?_ ?_; focus (first | rfl | (simp; done) | (simp; omega))) | (refine And.intro ?_ ?_; focus (first | rfl | decide | (simp; done) | (simp; omega) | omega))) <;> (try conv => whnf)))
          refine ⟨c, c', rfl, pr, fun h => (lw.ne (h v lw.wd)).elim, fun u _ => ?_⟩
          ((try conv => whnf) <;> repeat ((first | (refine Ite.mt ?_ ?_; focus (first | rfl | (simp; done) | (simp; omega))) | (refine Ite.mf ?_ ?_; focus (first | rfl | (simp; done) | (simp; omega))) | (refine And.intro ?_ ?_; focus (first | rfl | decide | (simp; done) | (simp; omega) | omega))) <;> (try conv => whnf)))
          refine ⟨false, false, rfl, ?_⟩
          ((try conv => whnf) <;> repeat ((first | (refine Ite.mt ?_ ?_; focus (first | rfl | (simp; done) | (simp; omega))) | (refine Ite.mf ?_ ?_; focus (first | rfl | (simp; done) | (simp; omega))) | (refine And.intro ?_ ?_; focus (first | rfl | decide | (simp; done) | (simp; omega) | omega))) <;> (try conv => whnf)))
          refine ⟨c, c, rfl, pr_self ok (by omega), fun _ => ?_, fun w l => (l.ne same_rfl).elim⟩
          ((try conv => whnf) <;> repeat ((first | (refine Ite.mt ?_ ?_; focus (first | rfl | (simp; done) | (simp; omega))) | (refine Ite.mf ?_ ?_; focus (first | rfl | (simp; done) | (simp; omega))) | (refine And.intro ?_ ?_; focus (first | rfl | decide | (simp; done) | (simp; omega) | omega))) <;> (try conv => whnf)))
          refine ⟨c', c', rfl, pr_self ok' (by omega), fun _ => ?_, fun w l => (l.ne same_rfl).elim⟩
          ((try conv => whnf) <;> repeat ((first | (refine Ite.mt ?_ ?_; focus (first | rfl | (simp; done) | (simp; omega))) | (refine Ite.mf ?_ ?_; focus (first | rfl | (simp; done) | (simp; omega))) | (refine And.intro ?_ ?_; focus (first | rfl | decide | (simp; done) | (simp; omega) | omega))) <;> (try conv => whnf)))
          exact hK2 _ _ ⟨_, _, _, _, _, _, _, rfl, d2.mono (by push_cast; omega)⟩
      · ((try conv => whnf) <;> repeat ((first | (refine Ite.mt ?_ ?_; focus (first | rfl | (simp; done) | (simp; omega))) | (refine Ite.mf ?_ ?_; focus (first | rfl | (simp; done) | (simp; omega))) | (refine And.intro ?_ ?_; focus (first | rfl | decide | (simp; done) | (simp; omega) | omega))) <;> (try conv => whnf)))
        refine ⟨c, c', _, min 5 (p.length + p'.length - 1), rfl, ok, ok', e'.symm, ?_, by omega, pw 5 hb.2, fun hall => ?_, fun w lw hwl => ?_⟩
        · simp only [List.length_map]; split <;> omega
        · ((try conv => whnf) <;> repeat ((first | (refine Ite.mt ?_ ?_; focus (first | rfl | (simp; done) | (simp; omega))) | (refine Ite.mf ?_ ?_; focus (first | rfl | (simp; done) | (simp; omega))) | (refine And.intro ?_ ?_; focus (first | rfl | decide | (simp; done) | (simp; omega) | omega))) <;> (try conv => whnf)))
          refine Ite.intro (fun hd => ?_) (fun hd => ?_)
          · have hd : decide ((if (5 : Int) < ((p.map memsT).length : Int) + ((p'.map memsT).length : Int) - 1 then 5 else ((p.map memsT).length : Int) + ((p'.map memsT).length : Int) - 1) = ((p.map memsT).length : Int) + ((p'.map memsT).length : Int) - 1) = true := hd
            have nol : ∀ w, ¬ LeastC c c' w := fun w l => by
              have h1 := least_C_len ok ok' e'.symm ho.toTab ho'.toTab l
              refine l.ne (hall w l.wd ?_)
              simp only [List.length_map, decide_eq_true_eq] at hd
              split at hd <;> omega
            ((try conv => whnf) <;> repeat ((first | (refine Ite.mt ?_ ?_; focus (first | rfl | (simp; done) | (simp; omega))) | (refine Ite.mf ?_ ?_; focus (first | rfl | (simp; done) | (simp; omega))) | (refine And.intro ?_ ?_; focus (first | rfl | decide | (simp; done) | (simp; omega) | omega))) <;> (try conv => whnf)))
            refine ⟨c, c', rfl, pr, fun _ => ?_, fun w l => (nol w l).elim⟩
            ((try conv => whnf) <;> repeat ((first | (refine Ite.mt ?_ ?_; focus (first | rfl | (simp; done) | (simp; omega))) | (refine Ite.mf ?_ ?_; focus (first | rfl | (simp; done) | (simp; omega))) | (refine And.intro ?_ ?_; focus (first | rfl | decide | (simp; done) | (simp; omega) | omega))) <;> (try conv => whnf)))
            refine ⟨⟨rfl, rfl⟩, ?_⟩
            ((try conv => whnf) <;> repeat ((first | (refine Ite.mt ?_ ?_; focus (first | rfl | (simp; done) | (simp; omega))) | (refine Ite.mf ?_ ?_; focus (first | rfl | (simp; done) | (simp; omega))) | (refine And.intro ?_ ?_; focus (first | rfl | decide | (simp; done) | (simp; omega) | omega))) <;> (try conv => whnf)))
            refine ⟨c, c', rfl, pr, fun _ => ?_, fun w l => (nol w l).elim⟩
            ((try conv => whnf) <;> repeat ((first | (refine Ite.mt ?_ ?_; focus (first | rfl | (simp; done) | (simp; omega))) | (refine Ite.mf ?_ ?_; focus (first | rfl | (simp; done) | (simp; omega))) | (refine And.intro ?_ ?_; focus (first | rfl | decide | (simp; done) | (simp; omega) | omega))) <;> (try conv => whnf)))
            refine ⟨true, true, rfl, ?_⟩
            ((try conv => whnf) <;> repeat ((first | (refine Ite.mt ?_ ?_; focus (first | rfl | (simp; done) | (simp; omega))) | (refine Ite.mf ?_ ?_; focus (first | rfl | (simp; done) | (simp; omega))) | (refine And.intro ?_ ?_; focus (first | rfl | decide | (simp; done) | (simp; omega) | omega))) <;> (try conv => whnf)))
            refine ⟨c, c, rfl, pr_self ok (by omega), fun _ => ?_, fun w l => (l.ne same_rfl).elim⟩
            ((try conv => whnf) <;> repeat ((first | (refine Ite.mt ?_ ?_; focus (first | rfl | (simp; done) | (simp; omega))) | (refine Ite.mf ?_ ?_; focus (first | rfl | (simp; done) | (simp; omega))) | (refine And.intro ?_ ?_; focus (first | rfl | decide | (simp; done) | (simp; omega) | omega))) <;> (try conv => whnf)))
            refine ⟨c', c', rfl, pr_self ok' (by omega), fun _ => ?_, fun w l => (l.ne same_rfl).elim⟩
            ((try conv => whnf) <;> repeat ((first | (refine Ite.mt ?_ ?_; focus (first | rfl | (simp; done) | (simp; omega))) | (refine Ite.mf ?_ ?_; focus (first | rfl | (simp; done) | (simp; omega))) | (refine And.intro ?_ ?_; focus (first | rfl | decide | (simp; done) | (simp; omega) | omega))) <;> (try conv => whnf)))
            exact hK2 _ _ ⟨_, _, _, _, _, _, _, rfl, d2.mono (by push_cast; omega)⟩
          · ((try conv => whnf) <;> repeat ((first | (refine Ite.mt ?_ ?_; focus (first | rfl | (simp; done) | (simp; omega))) | (refine Ite.mf ?_ ?_; focus (first | rfl | (simp; done) | (simp; omega))) | (refine And.intro ?_ ?_; focus (first | rfl | decide | (simp; done) | (simp; omega) | omega))) <;> (try conv => whnf)))
            refine ⟨c, c, rfl, pr_self ok (by omega), fun _ => ?_, fun w l => (l.ne same_rfl).elim⟩
            ((try conv => whnf) <;> repeat ((first | (refine Ite.mt ?_ ?_; focus (first | rfl | (simp; done) | (simp; omega))) | (refine Ite.mf ?_ ?_; focus (first | rfl | (simp; done) | (simp; omega))) | (refine And.intro ?_ ?_; focus (first | rfl | decide | (simp; done) | (simp; omega) | omega))) <;> (try conv => whnf)))
            refine ⟨c', c', rfl, pr_self ok' (by omega), fun _ => ?_, fun w l => (l.ne same_rfl).elim⟩
            ((try conv => whnf) <;> repeat ((first | (refine Ite.mt ?_ ?_; focus (first | rfl | (simp; done) | (simp; omega))) | (refine Ite.mf ?_ ?_; focus (first | rfl | (simp; done) | (simp; omega))) | (refine And.intro ?_ ?_; focus (first | rfl | decide | (simp; done) | (simp; omega) | omega))) <;> (try conv => whnf)))
            exact hK2 _ _ ⟨_, _, _, _, _, _, _, rfl, d2.mono (by push_cast; omega)⟩
        · ((try conv => whnf) <;> repeat ((first | (refine Ite.mt ?_ ?_; focus (first | rfl | (simp; done) | (simp; omega))) | (refine Ite.mf ?_ ?_; focus (first | rfl | (simp; done) | (simp; omega))) | (refine And.intro ?_ ?_; focus (first | rfl | decide | (simp; done) | (simp; omega) | omega))) <;> (try conv => whnf)))
          refine ⟨c, c', rfl, pr, fun h => (lw.ne (h w lw.wd)).elim, fun v lv => ?_⟩
          have := lv.eq lw
          subst this
          ((try conv => whnf) <;> repeat ((first | (refine Ite.mt ?_ ?_; focus (first | rfl | (simp; done) | (simp; omega))) | (refine Ite.mf ?_ ?_; focus (first | rfl | (simp; done) | (simp; omega))) | (refine And.intro ?_ ?_; focus (first | rfl | decide | (simp; done) | (simp; omega) | omega))) <;> (try conv => whnf)))
          refine ⟨⟨cmp_nats _, cmp_nats _⟩, ?_⟩
          (conv => whnf)
          refine Ite.mf (show (!D.eqv (natsT v) (natsT v)) = false by rw [nats_eq, decide_eq_true rfl]; rfl) ?_
          ((try conv => whnf) <;> repeat ((first | (refine Ite.mt ?_ ?_; focus (first | rfl | (simp; done) | (simp; omega))) | (refine Ite.mf ?_ ?_; focus (first | rfl | (simp; done) | (simp; omega))) | (refine And.intro ?_ ?_; focus (first | rfl | decide | (simp; done) | (simp; omega) | omega))) <;> (try conv => whnf)))
          refine ⟨c, c', rfl, pr, fun h => (lw.ne (h v lw.wd)).elim, fun u _ => ?_⟩
          ((try conv => whnf) <;> repeat ((first | (refine Ite.mt ?_ ?_; focus (first | rfl | (simp; done) | (simp; omega))) | (refine Ite.mf ?_ ?_; focus (first | rfl | (simp; done) | (simp; omega))) | (refine And.intro ?_ ?_; focus (first | rfl | decide | (simp; done) | (simp; omega) | omega))) <;> (try conv => whnf)))
          refine ⟨false, false, rfl, ?_⟩
          ((try conv => whnf) <;> repeat ((first | (refine Ite.mt ?_ ?_; focus (first | rfl | (simp; done) | (simp; omega))) | (refine Ite.mf ?_ ?_; focus (first | rfl | (simp; done) | (simp; omega))) | (refine And.intro ?_ ?_; focus (first | rfl | decide | (simp; done) | (simp; omega) | omega))) <;> (try conv => whnf)))
          refine ⟨c, c, rfl, pr_self ok (by omega), fun _ => ?_, fun w l => (l.ne same_rfl).elim⟩
          ((try conv => whnf) <;> repeat ((first | (refine Ite.mt ?_ ?_; focus (first | rfl | (simp; done) | (simp; omega))) | (refine Ite.mf ?_ ?_; focus (first | rfl | (simp; done) | (simp; omega))) | (refine And.intro ?_ ?_; focus (first | rfl | decide | (simp; done) | (simp; omega) | omega))) <;> (try conv => whnf)))
          refine ⟨c', c', rfl, pr_self ok' (by omega), fun _ => ?_, fun w l => (l.ne same_rfl).elim⟩
          ((try conv => whnf) <;> repeat ((first | (refine Ite.mt ?_ ?_; focus (first | rfl | (simp; done) | (simp; omega))) | (refine Ite.mf ?_ ?_; focus (first | rfl | (simp; done) | (simp; omega))) | (refine And.intro ?_ ?_; focus (first | rfl | decide | (simp; done) | (simp; omega) | omega))) <;> (try conv => whnf)))
          exact hK2 _ _ ⟨_, _, _, _, _, _, _, rfl, d2.mono (by push_cast; omega)⟩
end VC

set_option Elab.async false
set_option linter.all false
set_option maxRecDepth 100000
set_option maxHeartbeats 4000000
namespace VC
namespace K04
open PySem PySem.Spec PyProof.Rows L2
def top (i : Nat) : Stmt := PySem.Challenge.pw_slewchains_k04_whole_all_signals_up_to_t.main.body.getD i (.Pass ⟨0, 0, 0, 0⟩)
abbrev s_is_from : Stmt := top 9
theorem sc_is_from : FnScope ["value", "low", "high"] ["value", "low", "high"] (defScope s_is_from) := ⟨rfl, rfl, rfl, by decide +kernel, rfl, by decide +kernel, by decide +kernel⟩
theorem b_is_from {P : Program} {w : World} {K : PySem.W.Frag} {mg : Str → Option Value} {base : Heap} {k : Nat} (nb : Nob mg) {f : Addr} {cdv : Value} {A : Around} {outer : List Env} {s : Shared} {H : Hp} {E : XK} {B : Hp} {g0 : Gh} (hr : Room k (A.deeper (envOfC "is_from" (defScope s_is_from) s.heap.objs.size f cdv))) :
    VSs (cxX P w K mg base ["value", "low", "high"] "is_from" (defScope s_is_from) f cdv A outer s H E) B g0 (defBody s_is_from) (wf_is_from) :=
  (vss_one (vs_ret (ve_and (ve_isi hf_int (by rfl) nb.isinstance (vo_var (pv 0)) (by rfl) nb.int bb_int) (ve_and (ve_not (ve_isi hf_bl (by rfl) nb.isinstance (vo_var (pv 0)) (by rfl) nb.bool bb_bool)) (ve_one (ve_chain o_le o_le (vo_var (pv 1)) (vo_var (pv 0)) (vo_var (pv 2))))))))

abbrev s_is_stage_of : Stmt := top 10
theorem sc_is_stage_of : FnScope ["top", "value"] ["top", "value"] (defScope s_is_stage_of) := ⟨rfl, rfl, rfl, by decide +kernel, rfl, by decide +kernel, by decide +kernel⟩
theorem b_is_stage_of {P : Program} {w : World} {K : PySem.W.Frag} {mg : Str → Option Value} {base : Heap} {k : Nat} (nb : Nob mg) (c_MOST_TOP : ∃ t, mg "MOST_TOP" = some (.int 5 t)) (c_MOST_WAIT : ∃ t, mg "MOST_WAIT" = some (.int 2 t)) {sp_is_from : FSpec} {k_is_from : Nat} (F_is_from : FnV P w K mg base "is_from" 3 k_is_from sp_is_from) (h_is_from : k_is_from ≤ k) {f : Addr} {cdv : Value} {A : Around} {outer : List Env} {s : Shared} {H : Hp} {E : XK} {B : Hp} {g0 : Gh} (hr : Room k (A.deeper (envOfC "is_stage_of" (defScope s_is_stage_of) s.heap.objs.size f cdv))) :
    VSs (cxX P w K mg base ["top", "value"] "is_stage_of" (defScope s_is_stage_of) f cdv A outer s H E) B g0 (defBody s_is_stage_of) (wf_is_stage_of sp_is_from) :=
  (vss_cons (vs_if (vw_or (vt_not (vt_val (ve_isi hf_tup (by rfl) nb.isinstance (vo_var (pv 1)) (by rfl) nb.tuple bb_tuple))) (vw_or (vt_cmp o_lt (ve_callB n_lenX (by rfl) nb.len bb_len (vu_cons (vo_var (pv 1)) vu_nil)).vo ve_int.vo) (vw_or1 (vt_not (vt_val (ve_isi hf_str (by rfl) nb.isinstance (ve_ix (o_ixX hr.u65) (vo_var (pv 1)) ve_int.vo).vo (by rfl) nb.str bb_str)))))).vt
  (vss_one (vs_ret ve_bl))
  vss_nil)
  (vss_cons (vs_if (vt_cmp (o_eq hr.units) (ve_ix (o_ixX hr.u65) (vo_var (pv 1)) ve_int.vo).vo ve_str.vo)
  (vss_one (vs_ret (ve_and (ve_cmp (o_eq hr.units) (ve_callB n_lenX (by rfl) nb.len bb_len (vu_cons (vo_var (pv 1)) vu_nil)).vo ve_int.vo) (ve_one (ve_call F_is_from (hr.mono h_is_from) (by rfl) (va_cons (ve_ix (o_ixX hr.u65) (vo_var (pv 1)) ve_int.vo) (va_cons ve_int (va_cons (ve_gi (by rfl) c_MOST_WAIT) va_nil))))))))
  vss_nil)
  (vss_cons (vs_if (vt_cmp (o_ne hr.units) (ve_callB n_lenX (by rfl) nb.len bb_len (vu_cons (vo_var (pv 1)) vu_nil)).vo ve_int.vo)
  (vss_one (vs_ret ve_bl))
  vss_nil)
  (vss_cons (vs_if (vt_cmp (o_eq hr.units) (ve_ix (o_ixX hr.u65) (vo_var (pv 1)) ve_int.vo).vo ve_str.vo)
  (vss_one (vs_ret (ve_and (ve_call F_is_from (hr.mono h_is_from) (by rfl) (va_cons (ve_ix (o_ixX hr.u65) (vo_var (pv 1)) ve_int.vo) (va_cons ve_int (va_cons (ve_gi (by rfl) c_MOST_TOP) va_nil)))) (ve_one (ve_call F_is_from (hr.mono h_is_from) (by rfl) (va_cons (ve_ix (o_ixX hr.u65) (vo_var (pv 1)) ve_int.vo) (va_cons ve_int (va_cons (ve_gi (by rfl) c_MOST_TOP) va_nil))))))))
  vss_nil)
  (vss_cons (vs_if (vt_cmp (o_inXf hr.u65) (ve_ix (o_ixX hr.u65) (vo_var (pv 1)) ve_int.vo).vo (ve_tup (va_cons ve_str (va_cons ve_str va_nil))).vo)
  (vss_one (vs_ret (ve_and (ve_call F_is_from (hr.mono h_is_from) (by rfl) (va_cons (ve_ix (o_ixX hr.u65) (vo_var (pv 1)) ve_int.vo) (va_cons ve_int (va_cons (ve_var (pv 0)) va_nil)))) (ve_one (ve_call F_is_from (hr.mono h_is_from) (by rfl) (va_cons (ve_ix (o_ixX hr.u65) (vo_var (pv 1)) ve_int.vo) (va_cons (ve_ix (o_ixX hr.u65) (vo_var (pv 1)) ve_int.vo) (va_cons (ve_var (pv 0)) va_nil))))))))
  vss_nil)
  (vss_one (vs_ret ve_bl)))))))

abbrev s_keeping : Stmt := top 11
theorem sc_keeping : FnScope ["stages", "stage"] ["stages"] (defScope s_keeping) := ⟨rfl, rfl, rfl, by decide +kernel, rfl, by decide +kernel, by decide +kernel⟩
theorem b_keeping {P : Program} {w : World} {K : PySem.W.Frag} {mg : Str → Option Value} {base : Heap} {k : Nat} (nb : Nob mg) {f : Addr} {cdv : Value} {A : Around} {outer : List Env} {s : Shared} {H : Hp} {E : XK} {B : Hp} {g0 : Gh} (hr : Room k (A.deeper (envOfC "keeping" (defScope s_keeping) s.heap.objs.size f cdv))) :
    VSs (cxX P w K mg base ["stages", "stage"] "keeping" (defScope s_keeping) f cdv A outer s H E) B g0 (defBody s_keeping) (wf_keeping) :=
  (vss_one (vs_ret (ve_callB n_lenX (by rfl) nb.len bb_len (vu_cons (ve_lc (own := [("stage", 1)]) (is := [1]) (by rfl) sc_keeping.nd (vi_wk (ve_var (pv 0))) (by rfl) ⟨fun _ _ _ _ _ _ _ => (vg_name (pg_name (i := 1) sc_keeping.nd (by rfl) (Or.inl (by rfl)))), fun _ _ _ _ _ _ _ => (vts_one (vt_cmp (o_ne hr.units) (ve_ix (o_ixX hr.u65) (vo_var (pv 1)) ve_int.vo).vo ve_str.vo)), fun _ _ _ _ _ _ _ => (ve_var (pv 1))⟩ (by decide)).vo vu_nil))))

abbrev s_is_chain_of : Stmt := top 12
theorem sc_is_chain_of : FnScope ["value", "top", "start", "stages", "stage"] ["value"] (defScope s_is_chain_of) := ⟨rfl, rfl, rfl, by decide +kernel, rfl, by decide +kernel, by decide +kernel⟩
theorem b_is_chain_of {P : Program} {w : World} {K : PySem.W.Frag} {mg : Str → Option Value} {base : Heap} {k : Nat} (nb : Nob mg) (c_MOST_KEEPING : ∃ t, mg "MOST_KEEPING" = some (.int 2 t)) (c_MOST_STAGES : ∃ t, mg "MOST_STAGES" = some (.int 3 t)) (c_MOST_TOP : ∃ t, mg "MOST_TOP" = some (.int 5 t)) {sp_is_stage_of : FSpec} {k_is_stage_of : Nat} (F_is_stage_of : FnV P w K mg base "is_stage_of" 2 k_is_stage_of sp_is_stage_of) (h_is_stage_of : k_is_stage_of ≤ k) {sp_keeping : FSpec} {k_keeping : Nat} (F_keeping : FnV P w K mg base "keeping" 1 k_keeping sp_keeping) (h_keeping : k_keeping ≤ k) {sp_is_from : FSpec} {k_is_from : Nat} (F_is_from : FnV P w K mg base "is_from" 3 k_is_from sp_is_from) (h_is_from : k_is_from ≤ k) {f : Addr} {cdv : Value} {A : Around} {outer : List Env} {s : Shared} {H : Hp} {E : XK} {B : Hp} {g0 : Gh} (hr : Room k (A.deeper (envOfC "is_chain_of" (defScope s_is_chain_of) s.heap.objs.size f cdv))) :
    VSs (cxX P w K mg base ["value", "top", "start", "stages", "stage"] "is_chain_of" (defScope s_is_chain_of) f cdv A outer s H E) B g0 (defBody s_is_chain_of) (wf_is_chain_of sp_is_stage_of sp_keeping sp_is_from) :=
  (vss_cons (vs_if (vw_or (vt_not (vt_val (ve_isi hf_tup (by rfl) nb.isinstance (vo_var (pv 0)) (by rfl) nb.tuple bb_tuple))) (vw_or (vt_cmp (o_ne hr.units) (ve_callB n_lenX (by rfl) nb.len bb_len (vu_cons (vo_var (pv 0)) vu_nil)).vo ve_int.vo) (vw_or1 (vt_not (vt_val (ve_call F_is_from (hr.mono h_is_from) (by rfl) (va_cons (ve_ix (o_ixX hr.u65) (vo_var (pv 0)) ve_int.vo) (va_cons ve_int (va_cons (ve_gi (by rfl) c_MOST_TOP) va_nil))))))))).vt
  (vss_one (vs_ret ve_bl))
  vss_nil)
  (vss_cons (vs_asg (ve_var (pv 0)) (vg_tupL (by rfl) (vgs_cons (vg_name (pg_name (i := 1) sc_is_chain_of.nd (by rfl) (Or.inr (by rfl)))) (vgs_cons (vg_name (pg_name (i := 2) sc_is_chain_of.nd (by rfl) (Or.inl (by rfl)))) (vgs_cons (vg_name (pg_name (i := 3) sc_is_chain_of.nd (by rfl) (Or.inl (by rfl)))) vgs_nil))) (lenC exN (lenC exN (lenC exN lenN)))))
  (vss_cons (vs_if (vw_or (vt_not (vt_val (ve_call F_is_from (hr.mono h_is_from) (by rfl) (va_cons (ve_var (pv 2)) (va_cons ve_int (va_cons (ve_var (pv 1)) va_nil)))))) (vw_or (vt_not (vt_val (ve_isi hf_tup (by rfl) nb.isinstance (vo_var (pv 3)) (by rfl) nb.tuple bb_tuple))) (vw_or1 (vt_cmp o_gt (ve_callB n_lenX (by rfl) nb.len bb_len (vu_cons (vo_var (pv 3)) vu_nil)).vo (ve_gi (by rfl) c_MOST_STAGES).vo)))).vt
  (vss_one (vs_ret ve_bl))
  vss_nil)
  (vss_one (vs_ret (ve_and (ve_callB (n_all (by rfl)) (by rfl) nb.all bb_all (vu_cons (ve_lc (own := [("stage", 4)]) (is := [4]) (by rfl) sc_is_chain_of.nd (vi_wk (ve_var (pv 3))) (by rfl) ⟨fun _ _ _ _ _ _ _ => (vg_name (pg_name (i := 4) sc_is_chain_of.nd (by rfl) (Or.inl (by rfl)))), fun _ _ _ _ _ _ _ => vts_nil, fun _ _ _ _ _ _ _ => (ve_call F_is_stage_of (hr.mono h_is_stage_of) (by rfl) (va_cons (ve_var (pv 1)) (va_cons (ve_var (pv 4)) va_nil)))⟩ (by decide)).vo vu_nil)) (ve_one (ve_cmp o_le (ve_call F_keeping (hr.mono h_keeping) (by rfl) (va_cons (ve_var (pv 3)) va_nil)).vo (ve_gi (by rfl) c_MOST_KEEPING).vo))))))))

abbrev s_need_chain : Stmt := top 13
theorem sc_need_chain : FnScope ["value"] ["value"] (defScope s_need_chain) := ⟨rfl, rfl, rfl, by decide +kernel, rfl, by decide +kernel, by decide +kernel⟩
theorem b_need_chain {P : Program} {w : World} {K : PySem.W.Frag} {mg : Str → Option Value} {base : Heap} {k : Nat} (nb : Nob mg) {sp_is_chain_of : FSpec} {k_is_chain_of : Nat} (F_is_chain_of : FnV P w K mg base "is_chain_of" 1 k_is_chain_of sp_is_chain_of) (h_is_chain_of : k_is_chain_of ≤ k) {f : Addr} {cdv : Value} {A : Around} {outer : List Env} {s : Shared} {H : Hp} {E : XK} {B : Hp} {g0 : Gh} (hr : Room k (A.deeper (envOfC "need_chain" (defScope s_need_chain) s.heap.objs.size f cdv))) :
    VSs (cxX P w K mg base ["value"] "need_chain" (defScope s_need_chain) f cdv A outer s H E) B g0 (defBody s_need_chain) (wf_need_chain sp_is_chain_of) :=
  (vss_one (vs_if (vt_not (vt_val (ve_call F_is_chain_of (hr.mono h_is_chain_of) (by rfl) (va_cons (ve_var (pv 0)) va_nil))))
  (vss_one vs_never)
  vss_nil))

abbrev s_need_pair : Stmt := top 14
theorem sc_need_pair : FnScope ["one", "other"] ["one", "other"] (defScope s_need_pair) := ⟨rfl, rfl, rfl, by decide +kernel, rfl, by decide +kernel, by decide +kernel⟩
theorem b_need_pair {P : Program} {w : World} {K : PySem.W.Frag} {mg : Str → Option Value} {base : Heap} {k : Nat} (nb : Nob mg) {sp_need_chain : FSpec} {k_need_chain : Nat} (F_need_chain : FnV P w K mg base "need_chain" 1 k_need_chain sp_need_chain) (h_need_chain : k_need_chain ≤ k) {f : Addr} {cdv : Value} {A : Around} {outer : List Env} {s : Shared} {H : Hp} {E : XK} {B : Hp} {g0 : Gh} (hr : Room k (A.deeper (envOfC "need_pair" (defScope s_need_pair) s.heap.objs.size f cdv))) :
    VSs (cxX P w K mg base ["one", "other"] "need_pair" (defScope s_need_pair) f cdv A outer s H E) B g0 (defBody s_need_pair) (wf_need_pair sp_need_chain) :=
  (vss_cons (vs_expr (ve_call F_need_chain (hr.mono h_need_chain) (by rfl) (va_cons (ve_var (pv 0)) va_nil)))
  (vss_cons (vs_expr (ve_call F_need_chain (hr.mono h_need_chain) (by rfl) (va_cons (ve_var (pv 1)) va_nil)))
  (vss_one (vs_if (vt_cmp (o_ne hr.units) (ve_ix (o_ixX hr.u65) (vo_var (pv 0)) ve_int.vo).vo (ve_ix (o_ixX hr.u65) (vo_var (pv 1)) ve_int.vo).vo)
  (vss_one vs_never)
  vss_nil))))

abbrev s_between : Stmt := top 16
theorem sc_between : FnScope ["level", "low", "high"] ["level", "low", "high"] (defScope s_between) := ⟨rfl, rfl, rfl, by decide +kernel, rfl, by decide +kernel, by decide +kernel⟩
theorem b_between {P : Program} {w : World} {K : PySem.W.Frag} {mg : Str → Option Value} {base : Heap} {k : Nat} (nb : Nob mg) {f : Addr} {cdv : Value} {A : Around} {outer : List Env} {s : Shared} {H : Hp} {E : XK} {B : Hp} {g0 : Gh} (hr : Room k (A.deeper (envOfC "between" (defScope s_between) s.heap.objs.size f cdv))) :
    VSs (cxX P w K mg base ["level", "low", "high"] "between" (defScope s_between) f cdv A outer s H E) B g0 (defBody s_between) (wf_between) :=
  (vss_one (vs_ret (ve_callB (n_min2 (by rfl)) (by rfl) nb.min bb_min (vu_cons (ve_callB (n_max2 (by rfl)) (by rfl) nb.max bb_max (vu_cons (vo_var (pv 0)) (vu_cons (vo_var (pv 1)) vu_nil))).vo (vu_cons (vo_var (pv 2)) vu_nil)))))

abbrev s_first_of : Stmt := top 17
theorem sc_first_of : FnScope ["stage", "level", "opened"] ["stage", "level"] (defScope s_first_of) := ⟨rfl, rfl, rfl, by decide +kernel, rfl, by decide +kernel, by decide +kernel⟩
theorem b_first_of {P : Program} {w : World} {K : PySem.W.Frag} {mg : Str → Option Value} {base : Heap} {k : Nat} (nb : Nob mg) {sp_between : FSpec} {k_between : Nat} (F_between : FnV P w K mg base "between" 3 k_between sp_between) (h_between : k_between ≤ k) {f : Addr} {cdv : Value} {A : Around} {outer : List Env} {s : Shared} {H : Hp} {E : XK} {B : Hp} {g0 : Gh} (hr : Room k (A.deeper (envOfC "first_of" (defScope s_first_of) s.heap.objs.size f cdv))) :
    VSs (cxX P w K mg base ["stage", "level", "opened"] "first_of" (defScope s_first_of) f cdv A outer s H E) B g0 (defBody s_first_of) (wf_first_of sp_between) :=
  (vss_cons (vs_if (vt_cmp (o_eq hr.units) (ve_ix (o_ixX hr.u65) (vo_var (pv 0)) ve_int.vo).vo ve_str.vo)
  (vss_one (vs_ret (ve_tup (va_cons (ve_var (pv 1)) (va_cons (ve_var (pv 1)) va_nil)))))
  vss_nil)
  (vss_cons (vs_if (vt_cmp (o_eq hr.units) (ve_ix (o_ixX hr.u65) (vo_var (pv 0)) ve_int.vo).vo ve_str.vo)
  (vss_one (vs_ret (ve_tup (va_cons (ve_call F_between (hr.mono h_between) (by rfl) (va_cons (ve_var (pv 1)) (va_cons (ve_ix (o_ixX hr.u65) (vo_var (pv 0)) ve_int.vo) (va_cons (ve_ix (o_ixX hr.u65) (vo_var (pv 0)) ve_int.vo) va_nil)))) (va_cons ve_int va_nil)))))
  vss_nil)
  (vss_cons (vs_if (vt_cmp (o_eq hr.units) (ve_ix (o_ixX hr.u65) (vo_var (pv 0)) ve_int.vo).vo ve_str.vo)
  (vss_cons (vs_set (ve_callTy n_int1 (by rfl) nb.int bb_int (vu_cons (ve_cmp o_ge (vo_var (pv 1)) (ve_ix (o_ixX hr.u65) (vo_var (pv 0)) ve_int.vo).vo).vo vu_nil)) (fun _ h => ps_set (i := 2) sc_first_of.nd (by rfl) (Or.inl (by rfl)) h))
  (vss_one (vs_ret (ve_tup (va_cons (ve_bin o_mul (vo_var (pv 1)) (vo_var (pv 2))) (va_cons (ve_var (pv 2)) va_nil))))))
  vss_nil)
  (vss_one (vs_ret (ve_tup (va_cons (ve_var (pv 1)) (va_cons (ve_tup (va_cons (ve_var (pv 1)) (va_cons ve_int va_nil))) va_nil))))))))

abbrev s_first_state : Stmt := top 18
theorem sc_first_state : FnScope ["chain", "level", "found", "stage", "memory"] ["chain"] (defScope s_first_state) := ⟨rfl, rfl, rfl, by decide +kernel, rfl, by decide +kernel, by decide +kernel⟩
theorem b_first_state {P : Program} {w : World} {K : PySem.W.Frag} {mg : Str → Option Value} {base : Heap} {k : Nat} (nb : Nob mg) {sp_first_of : FSpec} {k_first_of : Nat} (F_first_of : FnV P w K mg base "first_of" 2 k_first_of sp_first_of) (h_first_of : k_first_of ≤ k) {f : Addr} {cdv : Value} {A : Around} {outer : List Env} {s : Shared} {H : Hp} {E : XK} {B : Hp} {g0 : Gh} (hr : Room k (A.deeper (envOfC "first_state" (defScope s_first_state) s.heap.objs.size f cdv))) :
    VSs (cxX P w K mg base ["chain", "level", "found", "stage", "memory"] "first_state" (defScope s_first_state) f cdv A outer s H E) B g0 (defBody s_first_state) (wf_first_state sp_first_of) :=
  (vss_cons (vs_pr2 (vl_cons (ve_ix (o_ixX hr.u65) (vo_var (pv 0)) ve_int.vo) (fun _ _ => (vl_cons (ve_tup va_nil) (fun _ _ => vl_nil)))) (fun _ h => ps_par (by rfl) sc_first_state.nd (by rfl) (by rfl) (by decide) (by rfl) (by rfl) h (by rfl)))
  (vss_cons (vs_for PassesOwn.never (by rfl) (vi_wk (ve_ix (o_ixX hr.u65) (vo_var (pv 0)) ve_int.vo)) (vg_name (pg_name (i := 3) sc_first_state.nd (by rfl) (Or.inl (by rfl))))
  (vss_cons (vs_asg (ve_call F_first_of (hr.mono h_first_of) (by rfl) (va_cons (ve_var (pv 3)) (va_cons (ve_var (pv 1)) va_nil))) (vg_tupL (by rfl) (vgs_cons (vg_name (pg_name (i := 1) sc_first_state.nd (by rfl) (Or.inl (by rfl)))) (vgs_cons (vg_name (pg_name (i := 4) sc_first_state.nd (by rfl) (Or.inl (by rfl)))) vgs_nil)) (lenC exN (lenC exN lenN))))
  (vss_one (vs_set (ve_bin o_add (vo_var (pv 2)) (ve_tup (va_cons (ve_var (pv 4)) va_nil)).vo) (fun _ h => ps_set (i := 2) sc_first_state.nd (by rfl) (Or.inl (by rfl)) h)))))
  (vss_one (vs_ret (ve_mv (pv 2))))))

abbrev s_moved : Stmt := top 19
theorem sc_moved : FnScope ["stage", "memory", "level", "made", "opened", "waits"] ["stage", "memory", "level"] (defScope s_moved) := ⟨rfl, rfl, rfl, by decide +kernel, rfl, by decide +kernel, by decide +kernel⟩
theorem b_moved {P : Program} {w : World} {K : PySem.W.Frag} {mg : Str → Option Value} {base : Heap} {k : Nat} (nb : Nob mg) {sp_between : FSpec} {k_between : Nat} (F_between : FnV P w K mg base "between" 3 k_between sp_between) (h_between : k_between ≤ k) {f : Addr} {cdv : Value} {A : Around} {outer : List Env} {s : Shared} {H : Hp} {E : XK} {B : Hp} {g0 : Gh} (hr : Room k (A.deeper (envOfC "moved" (defScope s_moved) s.heap.objs.size f cdv))) :
    VSs (cxX P w K mg base ["stage", "memory", "level", "made", "opened", "waits"] "moved" (defScope s_moved) f cdv A outer s H E) B g0 (defBody s_moved) (wf_moved sp_between) :=
  (vss_cons (vs_if (vt_cmp (o_eq hr.units) (ve_ix (o_ixX hr.u65) (vo_var (pv 0)) ve_int.vo).vo ve_str.vo)
  (vss_cons (vs_set (ve_call F_between (hr.mono h_between) (by rfl) (va_cons (ve_var (pv 2)) (va_cons (ve_bin o_sub (vo_var (pv 1)) (ve_ix (o_ixX hr.u65) (vo_var (pv 0)) ve_int.vo).vo) (va_cons (ve_bin o_add (vo_var (pv 1)) (ve_ix (o_ixX hr.u65) (vo_var (pv 0)) ve_int.vo).vo) va_nil)))) (fun _ h => ps_set (i := 3) sc_moved.nd (by rfl) (Or.inl (by rfl)) h))
  (vss_one (vs_ret (ve_tup (va_cons (ve_var (pv 3)) (va_cons (ve_var (pv 3)) va_nil))))))
  vss_nil)
  (vss_cons (vs_if (vt_cmp (o_eq hr.units) (ve_ix (o_ixX hr.u65) (vo_var (pv 0)) ve_int.vo).vo ve_str.vo)
  (vss_one (vs_ret (ve_tup (va_cons (ve_call F_between (hr.mono h_between) (by rfl) (va_cons (ve_var (pv 2)) (va_cons (ve_ix (o_ixX hr.u65) (vo_var (pv 0)) ve_int.vo) (va_cons (ve_ix (o_ixX hr.u65) (vo_var (pv 0)) ve_int.vo) va_nil)))) (va_cons ve_int va_nil)))))
  vss_nil)
  (vss_cons (vs_if (vt_cmp (o_eq hr.units) (ve_ix (o_ixX hr.u65) (vo_var (pv 0)) ve_int.vo).vo ve_str.vo)
  (vss_cons (vs_set (ve_callTy n_int1 (by rfl) nb.int bb_int (vu_cons (ve_cmp o_ge (vo_var (pv 2)) (ve_ix (o_ixX hr.u65) (vo_var (pv 0)) (ve_if (vt_cmp (o_eq hr.units) (vo_var (pv 1)) ve_int.vo) ve_int ve_int).vo).vo).vo vu_nil)) (fun _ h => ps_set (i := 4) sc_moved.nd (by rfl) (Or.inl (by rfl)) h))
  (vss_one (vs_ret (ve_tup (va_cons (ve_bin o_mul (vo_var (pv 2)) (vo_var (pv 4))) (va_cons (ve_var (pv 4)) va_nil))))))
  vss_nil)
  (vss_cons (vs_asg (ve_var (pv 1)) (vg_tupL (by rfl) (vgs_cons (vg_name (pg_name (i := 3) sc_moved.nd (by rfl) (Or.inl (by rfl)))) (vgs_cons (vg_name (pg_name (i := 5) sc_moved.nd (by rfl) (Or.inl (by rfl)))) vgs_nil)) (lenC exN (lenC exN lenN))))
  (vss_cons (vs_if (vt_cmp o_gt (vo_var (pv 5)) ve_int.vo)
  (vss_one (vs_ret (ve_tup (va_cons (ve_var (pv 3)) (va_cons (ve_tup (va_cons (ve_var (pv 3)) (va_cons (ve_bin o_sub (vo_var (pv 5)) ve_int.vo) va_nil))) va_nil)))))
  vss_nil)
  (vss_one (vs_ret (ve_tup (va_cons (ve_var (pv 2)) (va_cons (ve_tup (va_cons (ve_var (pv 2)) (va_cons (ve_if (vt_cmp (o_ne hr.units) (vo_var (pv 2)) (vo_var (pv 3))) (ve_ix (o_ixX hr.u65) (vo_var (pv 0)) ve_int.vo) ve_int) va_nil))) va_nil))))))))))

abbrev s_step : Stmt := top 20
theorem sc_step : FnScope ["stages", "here", "level", "found", "stage", "memory", "later"] ["stages", "here", "level"] (defScope s_step) := ⟨rfl, rfl, rfl, by decide +kernel, rfl, by decide +kernel, by decide +kernel⟩
theorem b_step {P : Program} {w : World} {K : PySem.W.Frag} {mg : Str → Option Value} {base : Heap} {k : Nat} (nb : Nob mg) {sp_moved : FSpec} {k_moved : Nat} (F_moved : FnV P w K mg base "moved" 3 k_moved sp_moved) (h_moved : k_moved ≤ k) {f : Addr} {cdv : Value} {A : Around} {outer : List Env} {s : Shared} {H : Hp} {E : XK} {B : Hp} {g0 : Gh} (hr : Room k (A.deeper (envOfC "step" (defScope s_step) s.heap.objs.size f cdv))) :
    VSs (cxX P w K mg base ["stages", "here", "level", "found", "stage", "memory", "later"] "step" (defScope s_step) f cdv A outer s H E) B g0 (defBody s_step) (wf_step sp_moved) :=
  (vss_cons (vs_set (ve_tup va_nil) (fun _ h => ps_set (i := 3) sc_step.nd (by rfl) (Or.inl (by rfl)) h))
  (vss_cons (vs_for PassesOwn.never (by rfl) (vi_zip (by rfl) nb.zip (va_cons (ve_var (pv 0)) (va_cons (ve_var (pv 1)) va_nil))) (vg_tupL (by rfl) (vgs_cons (vg_name (pg_name (i := 4) sc_step.nd (by rfl) (Or.inl (by rfl)))) (vgs_cons (vg_name (pg_name (i := 5) sc_step.nd (by rfl) (Or.inl (by rfl)))) vgs_nil)) (lenC exN (lenC exN lenN)))
  (vss_cons (vs_asg (ve_call F_moved (hr.mono h_moved) (by rfl) (va_cons (ve_var (pv 4)) (va_cons (ve_var (pv 5)) (va_cons (ve_var (pv 2)) va_nil)))) (vg_tupL (by rfl) (vgs_cons (vg_name (pg_name (i := 2) sc_step.nd (by rfl) (Or.inl (by rfl)))) (vgs_cons (vg_name (pg_name (i := 6) sc_step.nd (by rfl) (Or.inl (by rfl)))) vgs_nil)) (lenC exN (lenC exN lenN))))
  (vss_one (vs_set (ve_bin o_add (vo_var (pv 3)) (ve_tup (va_cons (ve_var (pv 6)) va_nil)).vo) (fun _ h => ps_set (i := 3) sc_step.nd (by rfl) (Or.inl (by rfl)) h)))))
  (vss_one (vs_ret (ve_tup (va_cons (ve_var (pv 2)) (va_cons (ve_var (pv 3)) va_nil)))))))

abbrev s_with_place : Stmt := top 22
theorem sc_with_place : FnScope ["places", "here"] ["places", "here"] (defScope s_with_place) := ⟨rfl, rfl, rfl, by decide +kernel, rfl, by decide +kernel, by decide +kernel⟩
theorem b_with_place {P : Program} {w : World} {K : PySem.W.Frag} {mg : Str → Option Value} {base : Heap} {k : Nat} (nb : Nob mg) {f : Addr} {cdv : Value} {A : Around} {outer : List Env} {s : Shared} {H : Hp} {E : XK} {B : Hp} {g0 : Gh} (hr : Room k (A.deeper (envOfC "with_place" (defScope s_with_place) s.heap.objs.size f cdv))) :
    VSs (cxX P w K mg base ["places", "here"] "with_place" (defScope s_with_place) f cdv A outer s H E) B g0 (defBody s_with_place) (wf_with_place) :=
  (vss_one (vs_ret (ve_callTy (n_dict (by rfl) hr.u65) (by rfl) nb.dict bb_dict (vu_cons (ve_bin o_add (ve_items (by rfl) (by rfl) nb.list (vo_var (pv 0))).vo (ve_lst (va_cons (ve_tup (va_cons (ve_var (pv 1)) (va_cons (ve_callB n_lenX (by rfl) nb.len bb_len (vu_cons (vo_var (pv 0)) vu_nil)) va_nil))) va_nil)).vo).vo vu_nil))))

abbrev s_table_from : Stmt := top 23
theorem sc_table_from : FnScope ["chain", "firsts", "places", "order", "rows", "here", "row", "level", "made", "there"] ["chain", "firsts"] (defScope s_table_from) := ⟨rfl, rfl, rfl, by decide +kernel, rfl, by decide +kernel, by decide +kernel⟩
theorem b_table_from {P : Program} {w : World} {K : PySem.W.Frag} {mg : Str → Option Value} {base : Heap} {k : Nat} (nb : Nob mg) {sp_with_place : FSpec} {k_with_place : Nat} (F_with_place : FnV P w K mg base "with_place" 2 k_with_place sp_with_place) (h_with_place : k_with_place ≤ k) {sp_step : FSpec} {k_step : Nat} (F_step : FnV P w K mg base "step" 3 k_step sp_step) (h_step : k_step ≤ k) {f : Addr} {cdv : Value} {A : Around} {outer : List Env} {s : Shared} {H : Hp} {E : XK} {B : Hp} {g0 : Gh} (hr : Room k (A.deeper (envOfC "table_from" (defScope s_table_from) s.heap.objs.size f cdv))) :
    VSs (cxX P w K mg base ["chain", "firsts", "places", "order", "rows", "here", "row", "level", "made", "there"] "table_from" (defScope s_table_from) f cdv A outer s H E) B g0 (defBody s_table_from) (wf_table_from sp_with_place sp_step) :=
  (vss_cons (vs_pr3 (vl_cons ve_dct0 (fun _ _ => (vl_cons (ve_tup va_nil) (fun _ _ => (vl_cons (ve_tup va_nil) (fun _ _ => vl_nil)))))) (fun _ h => ps_par3 (by rfl) sc_table_from.nd (by rfl) (by rfl) (by rfl) (by decide) (by decide) (by decide) (by rfl) (by rfl) (by rfl) h (by rfl)))
  (vss_cons (vs_for PassesOwn.never (by rfl) (vi_wk (ve_var (pv 1))) (vg_name (pg_name (i := 5) sc_table_from.nd (by rfl) (Or.inl (by rfl))))
  (vss_one (vs_if (vt_cmp (o_inXt hr.u65) (vo_var (pv 5)) (vo_var (pv 2)))
  (vss_one (vs_pr2 (vl_cons (ve_call F_with_place (hr.mono h_with_place) (by rfl) (va_cons (ve_var (pv 2)) (va_cons (ve_var (pv 5)) va_nil))) (fun _ _ => (vl_cons (ve_bin o_add (vo_var (pv 3)) (ve_tup (va_cons (ve_var (pv 5)) va_nil)).vo) (fun _ _ => vl_nil)))) (fun _ h => ps_par (by rfl) sc_table_from.nd (by rfl) (by rfl) (by decide) (by rfl) (by rfl) h (by rfl))))
  vss_nil)))
  (vss_cons (vs_while PassesOwn.never (vt_cmp o_lt (ve_callB n_lenX (by rfl) nb.len bb_len (vu_cons (vo_var (pv 4)) vu_nil)).vo (ve_callB n_lenX (by rfl) nb.len bb_len (vu_cons (vo_var (pv 3)) vu_nil)).vo)
  (vss_cons (vs_pr2 (vl_cons (ve_ix (o_ixX hr.u65) (vo_var (pv 3)) (ve_callB n_lenX (by rfl) nb.len bb_len (vu_cons (vo_var (pv 4)) vu_nil)).vo) (fun _ _ => (vl_cons (ve_tup va_nil) (fun _ _ => vl_nil)))) (fun _ h => ps_par (by rfl) sc_table_from.nd (by rfl) (by rfl) (by decide) (by rfl) (by rfl) h (by rfl)))
  (vss_cons (vs_for PassesOwn.never (by rfl) (vi_range1 (by rfl) nb.range (va_cons (ve_bin o_add (ve_ix (o_ixX hr.u65) (vo_var (pv 0)) ve_int.vo).vo ve_int.vo) va_nil)) (vg_name (pg_name (i := 7) sc_table_from.nd (by rfl) (Or.inl (by rfl))))
  (vss_cons (vs_asg (ve_call F_step (hr.mono h_step) (by rfl) (va_cons (ve_ix (o_ixX hr.u65) (vo_var (pv 0)) ve_int.vo) (va_cons (ve_var (pv 5)) (va_cons (ve_var (pv 7)) va_nil)))) (vg_tupL (by rfl) (vgs_cons (vg_name (pg_name (i := 8) sc_table_from.nd (by rfl) (Or.inl (by rfl)))) (vgs_cons (vg_name (pg_name (i := 9) sc_table_from.nd (by rfl) (Or.inl (by rfl)))) vgs_nil)) (lenC exN (lenC exN lenN))))
  (vss_cons (vs_if (vt_cmp (o_inXt hr.u65) (vo_var (pv 9)) (vo_var (pv 2)))
  (vss_one (vs_pr2 (vl_cons (ve_call F_with_place (hr.mono h_with_place) (by rfl) (va_cons (ve_var (pv 2)) (va_cons (ve_var (pv 9)) va_nil))) (fun _ _ => (vl_cons (ve_bin o_add (vo_var (pv 3)) (ve_tup (va_cons (ve_var (pv 9)) va_nil)).vo) (fun _ _ => vl_nil)))) (fun _ h => ps_par (by rfl) sc_table_from.nd (by rfl) (by rfl) (by decide) (by rfl) (by rfl) h (by rfl))))
  vss_nil)
  (vss_one (vs_set (ve_bin o_add (vo_var (pv 6)) (ve_tup (va_cons (ve_tup (va_cons (ve_var (pv 8)) (va_cons (ve_ix (o_ixX hr.u65) (vo_var (pv 2)) (vo_var (pv 9))) va_nil))) va_nil)).vo) (fun _ h => ps_set (i := 6) sc_table_from.nd (by rfl) (Or.inl (by rfl)) h))))))
  (vss_one (vs_set (ve_bin o_add (vo_var (pv 4)) (ve_tup (va_cons (ve_var (pv 6)) va_nil)).vo) (fun _ h => ps_set (i := 4) sc_table_from.nd (by rfl) (Or.inl (by rfl)) h))))))
  (vss_one (vs_ret (ve_tup (va_cons (ve_var (pv 2)) (va_cons (ve_var (pv 4)) va_nil))))))))

abbrev s_rows_of : Stmt := top 24
theorem sc_rows_of : FnScope ["chain"] ["chain"] (defScope s_rows_of) := ⟨rfl, rfl, rfl, by decide +kernel, rfl, by decide +kernel, by decide +kernel⟩
theorem b_rows_of {P : Program} {w : World} {K : PySem.W.Frag} {mg : Str → Option Value} {base : Heap} {k : Nat} (nb : Nob mg) {sp_table_from : FSpec} {k_table_from : Nat} (F_table_from : FnV P w K mg base "table_from" 2 k_table_from sp_table_from) (h_table_from : k_table_from ≤ k) {sp_first_state : FSpec} {k_first_state : Nat} (F_first_state : FnV P w K mg base "first_state" 1 k_first_state sp_first_state) (h_first_state : k_first_state ≤ k) {f : Addr} {cdv : Value} {A : Around} {outer : List Env} {s : Shared} {H : Hp} {E : XK} {B : Hp} {g0 : Gh} (hr : Room k (A.deeper (envOfC "rows_of" (defScope s_rows_of) s.heap.objs.size f cdv))) :
    VSs (cxX P w K mg base ["chain"] "rows_of" (defScope s_rows_of) f cdv A outer s H E) B g0 (defBody s_rows_of) (wf_rows_of sp_table_from sp_first_state) :=
  (vss_one (vs_ret (ve_ix (o_ixX hr.u65) (ve_call F_table_from (hr.mono h_table_from) (by rfl) (va_cons (ve_var (pv 0)) (va_cons (ve_lst (va_cons (ve_call F_first_state (hr.mono h_first_state) (by rfl) (va_cons (ve_var (pv 0)) va_nil)) va_nil)) va_nil))).vo ve_int.vo)))

abbrev s_row_to : Stmt := top 26
theorem sc_row_to : FnScope ["found", "pair", "signal", "level"] ["found", "pair"] (defScope s_row_to) := ⟨rfl, rfl, rfl, by decide +kernel, rfl, by decide +kernel, by decide +kernel⟩
theorem b_row_to {P : Program} {w : World} {K : PySem.W.Frag} {mg : Str → Option Value} {base : Heap} {k : Nat} (nb : Nob mg) {f : Addr} {cdv : Value} {A : Around} {outer : List Env} {s : Shared} {H : Hp} {E : XK} {B : Hp} {g0 : Gh} (hr : Room k (A.deeper (envOfC "row_to" (defScope s_row_to) s.heap.objs.size f cdv))) :
    VSs (cxX P w K mg base ["found", "pair", "signal", "level"] "row_to" (defScope s_row_to) f cdv A outer s H E) B g0 (defBody s_row_to) (wf_row_to) :=
  (vss_cons (vs_set (ve_tup va_nil) (fun _ h => ps_set (i := 2) sc_row_to.nd (by rfl) (Or.inl (by rfl)) h))
  (vss_cons (vs_while PassesOwn.never (vt_cmp o_isnot (ve_ix (o_ixX hr.u65) (vo_var (pv 0)) (vo_var (pv 1))).vo ve_non.vo)
  (vss_cons (vs_asg (ve_ix (o_ixX hr.u65) (vo_var (pv 0)) (vo_var (pv 1))) (vg_tupL (by rfl) (vgs_cons (vg_name (pg_name (i := 1) sc_row_to.nd (by rfl) (Or.inl (by rfl)))) (vgs_cons (vg_name (pg_name (i := 3) sc_row_to.nd (by rfl) (Or.inl (by rfl)))) vgs_nil)) (lenC exN (lenC exN lenN))))
  (vss_one (vs_set (ve_bin o_add (ve_tup (va_cons (ve_var (pv 3)) va_nil)).vo (vo_var (pv 2))) (fun _ h => ps_set (i := 2) sc_row_to.nd (by rfl) (Or.inl (by rfl)) h)))))
  (vss_one (vs_ret (ve_mv (pv 2))))))

abbrev s_parted : Stmt := top 27
theorem sc_parted : FnScope ["first", "other", "found", "front", "later", "pair", "level", "one", "two", "behind"] ["first", "other"] (defScope s_parted) := ⟨rfl, rfl, rfl, by decide +kernel, rfl, by decide +kernel, by decide +kernel⟩
theorem b_parted {P : Program} {w : World} {K : PySem.W.Frag} {mg : Str → Option Value} {base : Heap} {k : Nat} (nb : Nob mg) {sp_row_to : FSpec} {k_row_to : Nat} (F_row_to : FnV P w K mg base "row_to" 2 k_row_to sp_row_to) (h_row_to : k_row_to ≤ k) {f : Addr} {cdv : Value} {A : Around} {outer : List Env} {s : Shared} {H : Hp} {E : XK} {B : Hp} {g0 : Gh} (hr : Room k (A.deeper (envOfC "parted" (defScope s_parted) s.heap.objs.size f cdv))) :
    VSs (cxX P w K mg base ["first", "other", "found", "front", "later", "pair", "level", "one", "two", "behind"] "parted" (defScope s_parted) f cdv A outer s H E) B g0 (defBody s_parted) (wf_parted sp_row_to) :=
  (vss_cons (vs_pr2 (vl_cons (ve_dct1T hr.u65 (fun _ _ => (ve_tup (va_cons ve_int (va_cons ve_int va_nil)))) (fun _ _ => ve_non)) (fun _ _ => (vl_cons (ve_lst (va_cons (ve_tup (va_cons ve_int (va_cons ve_int va_nil))) va_nil)) (fun _ _ => vl_nil)))) (fun _ h => ps_par (by rfl) sc_parted.nd (by rfl) (by rfl) (by decide) (by rfl) (by rfl) h (by rfl)))
  (vss_cons (vs_while PassesOwn.never (vt_cmp (o_ne hr.units) (vo_var (pv 3)) (ve_lst va_nil).vo)
  (vss_cons (vs_set (ve_lst va_nil) (fun _ h => ps_set (i := 4) sc_parted.nd (by rfl) (Or.inl (by rfl)) h))
  (vss_cons (vs_for PassesOwn.never (by rfl) (vi_wk (ve_var (pv 3))) (vg_name (pg_name (i := 5) sc_parted.nd (by rfl) (Or.inl (by rfl))))
  (vss_one (vs_for PassesOwn.never (by rfl) (vi_ez (by rfl) nb.enumerate (by rfl) nb.zip (va_cons (ve_ix (o_ixX hr.u65) (vo_var (pv 0)) (ve_ix (o_ixX hr.u65) (vo_var (pv 5)) ve_int.vo).vo) (va_cons (ve_ix (o_ixX hr.u65) (vo_var (pv 1)) (ve_ix (o_ixX hr.u65) (vo_var (pv 5)) ve_int.vo).vo) va_nil))) (vg_tupL (by rfl) (vgs_cons (vg_name (pg_name (i := 6) sc_parted.nd (by rfl) (Or.inl (by rfl)))) (vgs_cons (vg_tupL (by rfl) (vgs_cons (vg_name (pg_name (i := 7) sc_parted.nd (by rfl) (Or.inl (by rfl)))) (vgs_cons (vg_name (pg_name (i := 8) sc_parted.nd (by rfl) (Or.inl (by rfl)))) vgs_nil)) (lenC exN (lenC exN lenN))) vgs_nil)) (lenC exN (lenC (exT (lenC exN (lenC exN lenN))) lenN)))
  (vss_cons (vs_if (vt_cmp (o_ne hr.units) (ve_ix (o_ixX hr.u65) (vo_var (pv 7)) ve_int.vo).vo (ve_ix (o_ixX hr.u65) (vo_var (pv 8)) ve_int.vo).vo)
  (vss_one (vs_ret (ve_bin o_add (ve_call F_row_to (hr.mono h_row_to) (by rfl) (va_cons (ve_var (pv 2)) (va_cons (ve_var (pv 5)) va_nil))).vo (ve_tup (va_cons (ve_var (pv 6)) va_nil)).vo)))
  vss_nil)
  (vss_cons (vs_set (ve_tup (va_cons (ve_ix (o_ixX hr.u65) (vo_var (pv 7)) ve_int.vo) (va_cons (ve_ix (o_ixX hr.u65) (vo_var (pv 8)) ve_int.vo) va_nil))) (fun _ h => ps_set (i := 9) sc_parted.nd (by rfl) (Or.inl (by rfl)) h))
  (vss_one (vs_if (vt_cmp (o_inXt hr.u65) (vo_var (pv 9)) (vo_var (pv 2)))
  (vss_cons (vs_setX (ve_tup (va_cons (ve_var (pv 5)) (va_cons (ve_var (pv 6)) va_nil))) (pv 2) (vo_var (pv 9)) (fun _ _ _ h1 h2 h3 => ps_asg h1 (pg_sub h2 h3 (set_x hr.u65))))
  (vss_one (vs_app (pv 4) (ve_var (pv 9)))))
  vss_nil)))))))
  (vss_one (vs_set (ve_var (pv 4)) (fun _ h => ps_set (i := 3) sc_parted.nd (by rfl) (Or.inl (by rfl)) h))))))
  (vss_one (vs_ret ve_non))))

abbrev s_same_for_all : Stmt := top 28
theorem sc_same_for_all : FnScope ["one", "other"] ["one", "other"] (defScope s_same_for_all) := ⟨rfl, rfl, rfl, by decide +kernel, rfl, by decide +kernel, by decide +kernel⟩
theorem b_same_for_all {P : Program} {w : World} {K : PySem.W.Frag} {mg : Str → Option Value} {base : Heap} {k : Nat} (nb : Nob mg) {sp_parted : FSpec} {k_parted : Nat} (F_parted : FnV P w K mg base "parted" 2 k_parted sp_parted) (h_parted : k_parted ≤ k) {sp_rows_of : FSpec} {k_rows_of : Nat} (F_rows_of : FnV P w K mg base "rows_of" 1 k_rows_of sp_rows_of) (h_rows_of : k_rows_of ≤ k) {f : Addr} {cdv : Value} {A : Around} {outer : List Env} {s : Shared} {H : Hp} {E : XK} {B : Hp} {g0 : Gh} (hr : Room k (A.deeper (envOfC "same_for_all" (defScope s_same_for_all) s.heap.objs.size f cdv))) :
    VSs (cxX P w K mg base ["one", "other"] "same_for_all" (defScope s_same_for_all) f cdv A outer s H E) B g0 (defBody s_same_for_all) (wf_same_for_all sp_parted sp_rows_of) :=
  (vss_one (vs_ret (ve_cmp o_is (ve_call F_parted (hr.mono h_parted) (by rfl) (va_cons (ve_call F_rows_of (hr.mono h_rows_of) (by rfl) (va_cons (ve_var (pv 0)) va_nil)) (va_cons (ve_call F_rows_of (hr.mono h_rows_of) (by rfl) (va_cons (ve_var (pv 1)) va_nil)) va_nil))).vo ve_non.vo)))

abbrev s_alike : Stmt := top 29
theorem sc_alike : FnScope ["one", "other"] ["one", "other"] (defScope s_alike) := ⟨rfl, rfl, rfl, by decide +kernel, rfl, by decide +kernel, by decide +kernel⟩
theorem b_alike {P : Program} {w : World} {K : PySem.W.Frag} {mg : Str → Option Value} {base : Heap} {k : Nat} (nb : Nob mg) {sp_same_for_all : FSpec} {k_same_for_all : Nat} (F_same_for_all : FnV P w K mg base "same_for_all" 2 k_same_for_all sp_same_for_all) (h_same_for_all : k_same_for_all ≤ k) {sp_need_pair : FSpec} {k_need_pair : Nat} (F_need_pair : FnV P w K mg base "need_pair" 2 k_need_pair sp_need_pair) (h_need_pair : k_need_pair ≤ k) {f : Addr} {cdv : Value} {A : Around} {outer : List Env} {s : Shared} {H : Hp} {E : XK} {B : Hp} {g0 : Gh} (hr : Room k (A.deeper (envOfC "alike" (defScope s_alike) s.heap.objs.size f cdv))) :
    VSs (cxX P w K mg base ["one", "other"] "alike" (defScope s_alike) f cdv A outer s H E) B g0 (defBody s_alike) (wf_alike sp_same_for_all sp_need_pair) :=
  (vss_cons (vs_expr (ve_call F_need_pair (hr.mono h_need_pair) (by rfl) (va_cons (ve_var (pv 0)) (va_cons (ve_var (pv 1)) va_nil))))
  (vss_one (vs_ret (ve_call F_same_for_all (hr.mono h_same_for_all) (by rfl) (va_cons (ve_var (pv 0)) (va_cons (ve_var (pv 1)) va_nil))))))

abbrev s_parting_signal : Stmt := top 30
theorem sc_parting_signal : FnScope ["one", "other"] ["one", "other"] (defScope s_parting_signal) := ⟨rfl, rfl, rfl, by decide +kernel, rfl, by decide +kernel, by decide +kernel⟩
theorem b_parting_signal {P : Program} {w : World} {K : PySem.W.Frag} {mg : Str → Option Value} {base : Heap} {k : Nat} (nb : Nob mg) {sp_parted : FSpec} {k_parted : Nat} (F_parted : FnV P w K mg base "parted" 2 k_parted sp_parted) (h_parted : k_parted ≤ k) {sp_rows_of : FSpec} {k_rows_of : Nat} (F_rows_of : FnV P w K mg base "rows_of" 1 k_rows_of sp_rows_of) (h_rows_of : k_rows_of ≤ k) {sp_need_pair : FSpec} {k_need_pair : Nat} (F_need_pair : FnV P w K mg base "need_pair" 2 k_need_pair sp_need_pair) (h_need_pair : k_need_pair ≤ k) {f : Addr} {cdv : Value} {A : Around} {outer : List Env} {s : Shared} {H : Hp} {E : XK} {B : Hp} {g0 : Gh} (hr : Room k (A.deeper (envOfC "parting_signal" (defScope s_parting_signal) s.heap.objs.size f cdv))) :
    VSs (cxX P w K mg base ["one", "other"] "parting_signal" (defScope s_parting_signal) f cdv A outer s H E) B g0 (defBody s_parting_signal) (wf_parting_signal sp_parted sp_rows_of sp_need_pair) :=
  (vss_cons (vs_expr (ve_call F_need_pair (hr.mono h_need_pair) (by rfl) (va_cons (ve_var (pv 0)) (va_cons (ve_var (pv 1)) va_nil))))
  (vss_one (vs_ret (ve_call F_parted (hr.mono h_parted) (by rfl) (va_cons (ve_call F_rows_of (hr.mono h_rows_of) (by rfl) (va_cons (ve_var (pv 0)) va_nil)) (va_cons (ve_call F_rows_of (hr.mono h_rows_of) (by rfl) (va_cons (ve_var (pv 1)) va_nil)) va_nil))))))

abbrev s_bound : Stmt := top 31
theorem sc_bound : FnScope ["one", "other"] ["one", "other"] (defScope s_bound) := ⟨rfl, rfl, rfl, by decide +kernel, rfl, by decide +kernel, by decide +kernel⟩
theorem b_bound {P : Program} {w : World} {K : PySem.W.Frag} {mg : Str → Option Value} {base : Heap} {k : Nat} (nb : Nob mg) {sp_rows_of : FSpec} {k_rows_of : Nat} (F_rows_of : FnV P w K mg base "rows_of" 1 k_rows_of sp_rows_of) (h_rows_of : k_rows_of ≤ k) {sp_need_pair : FSpec} {k_need_pair : Nat} (F_need_pair : FnV P w K mg base "need_pair" 2 k_need_pair sp_need_pair) (h_need_pair : k_need_pair ≤ k) {f : Addr} {cdv : Value} {A : Around} {outer : List Env} {s : Shared} {H : Hp} {E : XK} {B : Hp} {g0 : Gh} (hr : Room k (A.deeper (envOfC "bound" (defScope s_bound) s.heap.objs.size f cdv))) :
    VSs (cxX P w K mg base ["one", "other"] "bound" (defScope s_bound) f cdv A outer s H E) B g0 (defBody s_bound) (wf_bound sp_rows_of sp_need_pair) :=
  (vss_cons (vs_expr (ve_call F_need_pair (hr.mono h_need_pair) (by rfl) (va_cons (ve_var (pv 0)) (va_cons (ve_var (pv 1)) va_nil))))
  (vss_one (vs_ret (ve_bin o_sub (ve_bin o_add (ve_callB n_lenX (by rfl) nb.len bb_len (vu_cons (ve_call F_rows_of (hr.mono h_rows_of) (by rfl) (va_cons (ve_var (pv 0)) va_nil)).vo vu_nil)).vo (ve_callB n_lenX (by rfl) nb.len bb_len (vu_cons (ve_call F_rows_of (hr.mono h_rows_of) (by rfl) (va_cons (ve_var (pv 1)) va_nil)).vo vu_nil)).vo).vo ve_int.vo))))

abbrev s__law_deck : Stmt := top 33
theorem sc__law_deck : FnScope ["_law_cell", "_law_turn"] ["_law_cell", "_law_turn"] (defScope s__law_deck) := ⟨rfl, rfl, rfl, by decide +kernel, rfl, by decide +kernel, by decide +kernel⟩
theorem b__law_deck {P : Program} {w : World} {K : PySem.W.Frag} {mg : Str → Option Value} {base : Heap} {k : Nat} (nb : Nob mg) {f : Addr} {cdv : Value} {A : Around} {outer : List Env} {s : Shared} {H : Hp} {E : XK} {B : Hp} {g0 : Gh} (hr : Room k (A.deeper (envOfC "_law_deck" (defScope s__law_deck) s.heap.objs.size f cdv))) :
    VSs (cxX P w K mg base ["_law_cell", "_law_turn"] "_law_deck" (defScope s__law_deck) f cdv A outer s H E) B g0 (defBody s__law_deck) (wf_law_deck) :=
  (vss_cons (vs_if (vt_cmp o_ge (vo_var (pv 0)) (ve_bin o_pow ve_int.vo ve_int.vo).vo)
  (vss_one (vs_ret (ve_lst (va_cons (ve_bin o_sub (vo_var (pv 0)) (ve_bin o_pow ve_int.vo ve_int.vo).vo) (va_cons (ve_bin o_mod (ve_callTy n_int1 (by rfl) nb.int bb_int (vu_cons (vo_var (pv 0)) vu_nil)).vo ve_int.vo) (va_cons (ve_var (pv 1)) va_nil))))))
  vss_nil)
  (vss_one (vs_ret (ve_lst (va_cons ve_int (va_cons (ve_bin o_mod (ve_callTy n_int1 (by rfl) nb.int bb_int (vu_cons (vo_var (pv 0)) vu_nil)).vo ve_int.vo) (va_cons (ve_var (pv 1)) va_nil)))))))

abbrev s__law_pick : Stmt := top 34
theorem sc__law_pick : FnScope ["_law_deck_here", "_law_limit", "_law_found", "_law_number"] ["_law_deck_here", "_law_limit"] (defScope s__law_pick) := ⟨rfl, rfl, rfl, by decide +kernel, rfl, by decide +kernel, by decide +kernel⟩
theorem b__law_pick {P : Program} {w : World} {K : PySem.W.Frag} {mg : Str → Option Value} {base : Heap} {k : Nat} (nb : Nob mg) {f : Addr} {cdv : Value} {A : Around} {outer : List Env} {s : Shared} {H : Hp} {E : XK} {B : Hp} {g0 : Gh} (hr : Room k (A.deeper (envOfC "_law_pick" (defScope s__law_pick) s.heap.objs.size f cdv))) :
    VSs (cxX P w K mg base ["_law_deck_here", "_law_limit", "_law_found", "_law_number"] "_law_pick" (defScope s__law_pick) f cdv A outer s H E) B g0 (defBody s__law_pick) (wf_law_pick) :=
  (vss_cons (vs_if (vt_cmp o_gt (ve_ix (o_ixX hr.u65) (vo_var (pv 0)) ve_int.vo).vo ve_int.vo)
  (vss_cons (vs_set (ve_bin o_mod (ve_callTy n_int1 (by rfl) nb.int bb_int (vu_cons (ve_ix (o_ixX hr.u65) (vo_var (pv 0)) ve_int.vo).vo vu_nil)).vo (vo_var (pv 1))) (fun _ h => ps_set (i := 2) sc__law_pick.nd (by rfl) (Or.inl (by rfl)) h))
  (vss_cons (vs_setX (ve_bin o_div (ve_ix (o_ixX hr.u65) (vo_var (pv 0)) ve_int.vo).vo (vo_var (pv 1))) (pv 0) ve_int.vo (fun _ _ _ h1 h2 h3 => ps_asg h1 (pg_sub h2 h3 (set_x hr.u65))))
  (vss_one (vs_ret (ve_mv (pv 2))))))
  vss_nil)
  (vss_cons (vs_setX (ve_bin o_add (ve_ix (o_ixX hr.u65) (vo_var (pv 0)) ve_int.vo).vo ve_int.vo) (pv 0) ve_int.vo (fun _ _ _ h1 h2 h3 => ps_asg h1 (pg_sub h2 h3 (set_x hr.u65))))
  (vss_cons (vs_set (ve_bin o_mod (ve_callTy n_int1 (by rfl) nb.int bb_int (vu_cons (ve_bin o_pow (ve_callTy n_int1 (by rfl) nb.int bb_int (vu_cons (ve_bin o_add (ve_ix (o_ixX hr.u65) (vo_var (pv 0)) ve_int.vo).vo (ve_bin o_mul ve_int.vo (ve_ix (o_ixX hr.u65) (vo_var (pv 0)) ve_int.vo).vo).vo).vo vu_nil)).vo ve_int.vo).vo vu_nil)).vo ve_int.vo) (fun _ h => ps_set (i := 3) sc__law_pick.nd (by rfl) (Or.inl (by rfl)) h))
  (vss_cons (vs_set (ve_bin o_div (ve_bin o_mod (ve_callTy n_int1 (by rfl) nb.int bb_int (vu_cons (ve_bin o_pow (ve_callTy n_int1 (by rfl) nb.int bb_int (vu_cons (ve_bin o_add (vo_var (pv 3)) (ve_bin o_mul ve_int.vo (ve_ix (o_ixX hr.u65) (vo_var (pv 0)) ve_int.vo).vo).vo).vo vu_nil)).vo ve_int.vo).vo vu_nil)).vo ve_int.vo).vo ve_int.vo) (fun _ h => ps_set (i := 2) sc__law_pick.nd (by rfl) (Or.inl (by rfl)) h))
  (vss_one (vs_ret (ve_bin o_mod (ve_callTy n_int1 (by rfl) nb.int bb_int (vu_cons (vo_var (pv 2)) vu_nil)).vo (vo_var (pv 1)))))))))

abbrev s__law_bool : Stmt := top 35
theorem sc__law_bool : FnScope ["_law_found", "_law_due"] ["_law_found", "_law_due"] (defScope s__law_bool) := ⟨rfl, rfl, rfl, by decide +kernel, rfl, by decide +kernel, by decide +kernel⟩
theorem b__law_bool {P : Program} {w : World} {K : PySem.W.Frag} {mg : Str → Option Value} {base : Heap} {k : Nat} (nb : Nob mg) {f : Addr} {cdv : Value} {A : Around} {outer : List Env} {s : Shared} {H : Hp} {E : XK} {B : Hp} {g0 : Gh} (hr : Room k (A.deeper (envOfC "_law_bool" (defScope s__law_bool) s.heap.objs.size f cdv))) :
    VSs (cxX P w K mg base ["_law_found", "_law_due"] "_law_bool" (defScope s__law_bool) f cdv A outer s H E) B g0 (defBody s__law_bool) (wf_law_bool) :=
  (vss_one (vs_ret (ve_and (ve_isi hf_bl (by rfl) nb.isinstance (vo_var (pv 0)) (by rfl) nb.bool bb_bool) (ve_one (ve_cmp (o_eq hr.units) (vo_var (pv 0)) (vo_var (pv 1)))))))

abbrev s__law_one : Stmt := top 36
theorem sc__law_one : FnScope ["_law_deck_here", "_law_some"] ["_law_deck_here", "_law_some"] (defScope s__law_one) := ⟨rfl, rfl, rfl, by decide +kernel, rfl, by decide +kernel, by decide +kernel⟩
theorem b__law_one {P : Program} {w : World} {K : PySem.W.Frag} {mg : Str → Option Value} {base : Heap} {k : Nat} (nb : Nob mg) {sp__law_pick : FSpec} {k__law_pick : Nat} (F__law_pick : FnV P w K mg base "_law_pick" 2 k__law_pick sp__law_pick) (h__law_pick : k__law_pick ≤ k) {f : Addr} {cdv : Value} {A : Around} {outer : List Env} {s : Shared} {H : Hp} {E : XK} {B : Hp} {g0 : Gh} (hr : Room k (A.deeper (envOfC "_law_one" (defScope s__law_one) s.heap.objs.size f cdv))) :
    VSs (cxX P w K mg base ["_law_deck_here", "_law_some"] "_law_one" (defScope s__law_one) f cdv A outer s H E) B g0 (defBody s__law_one) (wf_law_one sp__law_pick) :=
  (vss_one (vs_ret (ve_ix (o_ixX hr.u65) (vo_var (pv 1)) (ve_call F__law_pick (hr.mono h__law_pick) (by rfl) (va_cons (ve_var (pv 0)) (va_cons (ve_callB n_lenX (by rfl) nb.len bb_len (vu_cons (vo_var (pv 1)) vu_nil)) va_nil))).vo)))

abbrev s__law_first : Stmt := top 37
theorem sc__law_first : FnScope ["_law_c", "_law_at", "_law_found", "_law_part"] ["_law_c"] (defScope s__law_first) := ⟨rfl, rfl, rfl, by decide +kernel, rfl, by decide +kernel, by decide +kernel⟩
theorem b__law_first {P : Program} {w : World} {K : PySem.W.Frag} {mg : Str → Option Value} {base : Heap} {k : Nat} (nb : Nob mg) {f : Addr} {cdv : Value} {A : Around} {outer : List Env} {s : Shared} {H : Hp} {E : XK} {B : Hp} {g0 : Gh} (hr : Room k (A.deeper (envOfC "_law_first" (defScope s__law_first) s.heap.objs.size f cdv))) :
    VSs (cxX P w K mg base ["_law_c", "_law_at", "_law_found", "_law_part"] "_law_first" (defScope s__law_first) f cdv A outer s H E) B g0 (defBody s__law_first) (wf_law_first) :=
  (vss_cons (vs_pr2 (vl_cons (ve_ix (o_ixX hr.u65) (vo_var (pv 0)) ve_int.vo) (fun _ _ => (vl_cons (ve_lst va_nil) (fun _ _ => vl_nil)))) (fun _ h => ps_par (by rfl) sc__law_first.nd (by rfl) (by rfl) (by decide) (by rfl) (by rfl) h (by rfl)))
  (vss_cons (vs_for PassesOwn.never (by rfl) (vi_wk (ve_ix (o_ixX hr.u65) (vo_var (pv 0)) ve_int.vo)) (vg_name (pg_name (i := 3) sc__law_first.nd (by rfl) (Or.inl (by rfl))))
  (vss_one (vs_if (vt_cmp (o_eq hr.units) (ve_ix (o_ixX hr.u65) (vo_var (pv 3)) ve_int.vo).vo ve_str.vo)
  (vss_cons (vs_set (ve_callB (n_max2 (by rfl)) (by rfl) nb.max bb_max (vu_cons (ve_ix (o_ixX hr.u65) (vo_var (pv 3)) ve_int.vo).vo (vu_cons (ve_callB (n_min2 (by rfl)) (by rfl) nb.min bb_min (vu_cons (ve_ix (o_ixX hr.u65) (vo_var (pv 3)) ve_int.vo).vo (vu_cons (vo_var (pv 1)) vu_nil))).vo vu_nil))) (fun _ h => ps_set (i := 1) sc__law_first.nd (by rfl) (Or.inl (by rfl)) h))
  (vss_one (vs_app (pv 2) ve_int)))
  (vss_one (vs_if (vt_cmp (o_eq hr.units) (ve_ix (o_ixX hr.u65) (vo_var (pv 3)) ve_int.vo).vo ve_str.vo)
  (vss_cons (vs_app (pv 2) (ve_if (vt_cmp o_ge (vo_var (pv 1)) (ve_ix (o_ixX hr.u65) (vo_var (pv 3)) ve_int.vo).vo) ve_int ve_int))
  (vss_one (vs_set (ve_if (vt_cmp o_ge (vo_var (pv 1)) (ve_ix (o_ixX hr.u65) (vo_var (pv 3)) ve_int.vo).vo) (ve_var (pv 1)) ve_int) (fun _ h => ps_set (i := 1) sc__law_first.nd (by rfl) (Or.inl (by rfl)) h))))
  (vss_one (vs_app (pv 2) (ve_if (vt_cmp (o_eq hr.units) (ve_ix (o_ixX hr.u65) (vo_var (pv 3)) ve_int.vo).vo ve_str.vo) (ve_tup (va_cons (ve_var (pv 1)) (va_cons ve_int va_nil))) (ve_var (pv 1))))))))))
  (vss_one (vs_ret (ve_callTy n_tuple (by rfl) nb.tuple bb_tuple (vu_cons (vo_var (pv 2)) vu_nil))))))

abbrev s__law_tick : Stmt := top 38
theorem sc__law_tick : FnScope ["_law_c", "_law_kept", "_law_at", "_law_found", "_law_part", "_law_old"] ["_law_c", "_law_kept", "_law_at"] (defScope s__law_tick) := ⟨rfl, rfl, rfl, by decide +kernel, rfl, by decide +kernel, by decide +kernel⟩
theorem b__law_tick {P : Program} {w : World} {K : PySem.W.Frag} {mg : Str → Option Value} {base : Heap} {k : Nat} (nb : Nob mg) {f : Addr} {cdv : Value} {A : Around} {outer : List Env} {s : Shared} {H : Hp} {E : XK} {B : Hp} {g0 : Gh} (hr : Room k (A.deeper (envOfC "_law_tick" (defScope s__law_tick) s.heap.objs.size f cdv))) :
    VSs (cxX P w K mg base ["_law_c", "_law_kept", "_law_at", "_law_found", "_law_part", "_law_old"] "_law_tick" (defScope s__law_tick) f cdv A outer s H E) B g0 (defBody s__law_tick) (wf_law_tick) :=
  (vss_cons (vs_set (ve_lst va_nil) (fun _ h => ps_set (i := 3) sc__law_tick.nd (by rfl) (Or.inl (by rfl)) h))
  (vss_cons (vs_for PassesOwn.never (by rfl) (vi_zip (by rfl) nb.zip (va_cons (ve_ix (o_ixX hr.u65) (vo_var (pv 0)) ve_int.vo) (va_cons (ve_var (pv 1)) va_nil))) (vg_tupL (by rfl) (vgs_cons (vg_name (pg_name (i := 4) sc__law_tick.nd (by rfl) (Or.inl (by rfl)))) (vgs_cons (vg_name (pg_name (i := 5) sc__law_tick.nd (by rfl) (Or.inl (by rfl)))) vgs_nil)) (lenC exN (lenC exN lenN)))
  (vss_one (vs_if (vt_cmp (o_eq hr.units) (ve_ix (o_ixX hr.u65) (vo_var (pv 4)) ve_int.vo).vo ve_str.vo)
  (vss_cons (vs_if (vt_cmp o_gt (vo_var (pv 2)) (ve_bin o_add (vo_var (pv 5)) (ve_ix (o_ixX hr.u65) (vo_var (pv 4)) ve_int.vo).vo).vo)
  (vss_one (vs_set (ve_bin o_add (vo_var (pv 5)) (ve_ix (o_ixX hr.u65) (vo_var (pv 4)) ve_int.vo).vo) (fun _ h => ps_set (i := 2) sc__law_tick.nd (by rfl) (Or.inl (by rfl)) h)))
  vss_nil)
  (vss_cons (vs_if (vt_cmp o_lt (vo_var (pv 2)) (ve_bin o_sub (vo_var (pv 5)) (ve_ix (o_ixX hr.u65) (vo_var (pv 4)) ve_int.vo).vo).vo)
  (vss_one (vs_set (ve_bin o_sub (vo_var (pv 5)) (ve_ix (o_ixX hr.u65) (vo_var (pv 4)) ve_int.vo).vo) (fun _ h => ps_set (i := 2) sc__law_tick.nd (by rfl) (Or.inl (by rfl)) h)))
  vss_nil)
  (vss_one (vs_app (pv 3) (ve_var (pv 2))))))
  (vss_one (vs_if (vt_cmp (o_eq hr.units) (ve_ix (o_ixX hr.u65) (vo_var (pv 4)) ve_int.vo).vo ve_str.vo)
  (vss_cons (vs_set (ve_callB (n_max2 (by rfl)) (by rfl) nb.max bb_max (vu_cons (ve_ix (o_ixX hr.u65) (vo_var (pv 4)) ve_int.vo).vo (vu_cons (ve_callB (n_min2 (by rfl)) (by rfl) nb.min bb_min (vu_cons (ve_ix (o_ixX hr.u65) (vo_var (pv 4)) ve_int.vo).vo (vu_cons (vo_var (pv 2)) vu_nil))).vo vu_nil))) (fun _ h => ps_set (i := 2) sc__law_tick.nd (by rfl) (Or.inl (by rfl)) h))
  (vss_one (vs_app (pv 3) ve_int)))
  (vss_one (vs_if (vt_cmp (o_eq hr.units) (ve_ix (o_ixX hr.u65) (vo_var (pv 4)) ve_int.vo).vo ve_str.vo)
  (vss_cons (vs_if (vw_and (vt_cmp (o_eq hr.units) (vo_var (pv 5)) ve_int.vo) (vw_and1 (vt_cmp o_lt (vo_var (pv 2)) (ve_ix (o_ixX hr.u65) (vo_var (pv 4)) ve_int.vo).vo))).vt
  (vss_one (vs_set ve_int (fun _ h => ps_set (i := 5) sc__law_tick.nd (by rfl) (Or.inl (by rfl)) h)))
  (vss_one (vs_if (vw_and (vt_cmp (o_eq hr.units) (vo_var (pv 5)) ve_int.vo) (vw_and1 (vt_cmp o_ge (vo_var (pv 2)) (ve_ix (o_ixX hr.u65) (vo_var (pv 4)) ve_int.vo).vo))).vt
  (vss_one (vs_set ve_int (fun _ h => ps_set (i := 5) sc__law_tick.nd (by rfl) (Or.inl (by rfl)) h)))
  vss_nil)))
  (vss_cons (vs_set (ve_if (vt_cmp (o_eq hr.units) (vo_var (pv 5)) ve_int.vo) (ve_var (pv 2)) ve_int) (fun _ h => ps_set (i := 2) sc__law_tick.nd (by rfl) (Or.inl (by rfl)) h))
  (vss_one (vs_app (pv 3) (ve_var (pv 5))))))
  (vss_one (vs_if (vt_cmp o_gt (ve_ix (o_ixX hr.u65) (vo_var (pv 5)) ve_int.vo).vo ve_int.vo)
  (vss_cons (vs_set (ve_ix (o_ixX hr.u65) (vo_var (pv 5)) ve_int.vo) (fun _ h => ps_set (i := 2) sc__law_tick.nd (by rfl) (Or.inl (by rfl)) h))
  (vss_one (vs_app (pv 3) (ve_tup (va_cons (ve_var (pv 2)) (va_cons (ve_bin o_sub (ve_ix (o_ixX hr.u65) (vo_var (pv 5)) ve_int.vo).vo ve_int.vo) va_nil))))))
  (vss_one (vs_app (pv 3) (ve_tup (va_cons (ve_var (pv 2)) (va_cons (ve_if (vt_cmp (o_eq hr.units) (vo_var (pv 2)) (ve_ix (o_ixX hr.u65) (vo_var (pv 5)) ve_int.vo).vo) ve_int (ve_ix (o_ixX hr.u65) (vo_var (pv 4)) ve_int.vo)) va_nil))))))))))))))
  (vss_one (vs_ret (ve_tup (va_cons (ve_var (pv 2)) (va_cons (ve_callTy n_tuple (by rfl) nb.tuple bb_tuple (vu_cons (vo_var (pv 3)) vu_nil)) va_nil)))))))

abbrev s__law_ran : Stmt := top 39
theorem sc__law_ran : FnScope ["_law_c", "_law_kept", "_law_levels_here", "_law_found", "_law_at", "_law_made"] ["_law_c", "_law_kept", "_law_levels_here"] (defScope s__law_ran) := ⟨rfl, rfl, rfl, by decide +kernel, rfl, by decide +kernel, by decide +kernel⟩
theorem b__law_ran {P : Program} {w : World} {K : PySem.W.Frag} {mg : Str → Option Value} {base : Heap} {k : Nat} (nb : Nob mg) {sp__law_tick : FSpec} {k__law_tick : Nat} (F__law_tick : FnV P w K mg base "_law_tick" 3 k__law_tick sp__law_tick) (h__law_tick : k__law_tick ≤ k) {f : Addr} {cdv : Value} {A : Around} {outer : List Env} {s : Shared} {H : Hp} {E : XK} {B : Hp} {g0 : Gh} (hr : Room k (A.deeper (envOfC "_law_ran" (defScope s__law_ran) s.heap.objs.size f cdv))) :
    VSs (cxX P w K mg base ["_law_c", "_law_kept", "_law_levels_here", "_law_found", "_law_at", "_law_made"] "_law_ran" (defScope s__law_ran) f cdv A outer s H E) B g0 (defBody s__law_ran) (wf_law_ran sp__law_tick) :=
  (vss_cons (vs_set (ve_tup va_nil) (fun _ h => ps_set (i := 3) sc__law_ran.nd (by rfl) (Or.inl (by rfl)) h))
  (vss_cons (vs_for PassesOwn.never (by rfl) (vi_wk (ve_var (pv 2))) (vg_name (pg_name (i := 4) sc__law_ran.nd (by rfl) (Or.inl (by rfl))))
  (vss_cons (vs_asg (ve_call F__law_tick (hr.mono h__law_tick) (by rfl) (va_cons (ve_var (pv 0)) (va_cons (ve_var (pv 1)) (va_cons (ve_var (pv 4)) va_nil)))) (vg_tupL (by rfl) (vgs_cons (vg_name (pg_name (i := 5) sc__law_ran.nd (by rfl) (Or.inl (by rfl)))) (vgs_cons (vg_name (pg_name (i := 1) sc__law_ran.nd (by rfl) (Or.inl (by rfl)))) vgs_nil)) (lenC exN (lenC exN lenN))))
  (vss_one (vs_set (ve_bin o_add (vo_var (pv 3)) (ve_tup (va_cons (ve_var (pv 5)) va_nil)).vo) (fun _ h => ps_set (i := 3) sc__law_ran.nd (by rfl) (Or.inl (by rfl)) h)))))
  (vss_one (vs_ret (ve_tup (va_cons (ve_var (pv 3)) (va_cons (ve_var (pv 1)) va_nil)))))))

abbrev s__law_outs : Stmt := top 40
theorem sc__law_outs : FnScope ["_law_c", "_law_levels_here"] ["_law_c", "_law_levels_here"] (defScope s__law_outs) := ⟨rfl, rfl, rfl, by decide +kernel, rfl, by decide +kernel, by decide +kernel⟩
theorem b__law_outs {P : Program} {w : World} {K : PySem.W.Frag} {mg : Str → Option Value} {base : Heap} {k : Nat} (nb : Nob mg) {sp__law_ran : FSpec} {k__law_ran : Nat} (F__law_ran : FnV P w K mg base "_law_ran" 3 k__law_ran sp__law_ran) (h__law_ran : k__law_ran ≤ k) {sp__law_first : FSpec} {k__law_first : Nat} (F__law_first : FnV P w K mg base "_law_first" 1 k__law_first sp__law_first) (h__law_first : k__law_first ≤ k) {f : Addr} {cdv : Value} {A : Around} {outer : List Env} {s : Shared} {H : Hp} {E : XK} {B : Hp} {g0 : Gh} (hr : Room k (A.deeper (envOfC "_law_outs" (defScope s__law_outs) s.heap.objs.size f cdv))) :
    VSs (cxX P w K mg base ["_law_c", "_law_levels_here"] "_law_outs" (defScope s__law_outs) f cdv A outer s H E) B g0 (defBody s__law_outs) (wf_law_outs sp__law_ran sp__law_first) :=
  (vss_one (vs_ret (ve_ix (o_ixX hr.u65) (ve_call F__law_ran (hr.mono h__law_ran) (by rfl) (va_cons (ve_var (pv 0)) (va_cons (ve_call F__law_first (hr.mono h__law_first) (by rfl) (va_cons (ve_var (pv 0)) va_nil)) (va_cons (ve_var (pv 1)) va_nil)))).vo ve_int.vo)))

abbrev s__law_stage : Stmt := top 41
theorem sc__law_stage : FnScope ["_law_deck_here", "_law_top", "_law_bare", "_law_low", "_law_high", "_law_way"] ["_law_deck_here", "_law_top", "_law_bare"] (defScope s__law_stage) := ⟨rfl, rfl, rfl, by decide +kernel, rfl, by decide +kernel, by decide +kernel⟩
theorem b__law_stage {P : Program} {w : World} {K : PySem.W.Frag} {mg : Str → Option Value} {base : Heap} {k : Nat} (nb : Nob mg) {sp__law_pick : FSpec} {k__law_pick : Nat} (F__law_pick : FnV P w K mg base "_law_pick" 2 k__law_pick sp__law_pick) (h__law_pick : k__law_pick ≤ k) {f : Addr} {cdv : Value} {A : Around} {outer : List Env} {s : Shared} {H : Hp} {E : XK} {B : Hp} {g0 : Gh} (hr : Room k (A.deeper (envOfC "_law_stage" (defScope s__law_stage) s.heap.objs.size f cdv))) :
    VSs (cxX P w K mg base ["_law_deck_here", "_law_top", "_law_bare", "_law_low", "_law_high", "_law_way"] "_law_stage" (defScope s__law_stage) f cdv A outer s H E) B g0 (defBody s__law_stage) (wf_law_stage sp__law_pick) :=
  (vss_cons (vs_set (ve_call F__law_pick (hr.mono h__law_pick) (by rfl) (va_cons (ve_var (pv 0)) (va_cons (ve_bin o_add (vo_var (pv 1)) ve_int.vo) va_nil))) (fun _ h => ps_set (i := 3) sc__law_stage.nd (by rfl) (Or.inl (by rfl)) h))
  (vss_cons (vs_set (ve_bin o_add (vo_var (pv 3)) (ve_call F__law_pick (hr.mono h__law_pick) (by rfl) (va_cons (ve_var (pv 0)) (va_cons (ve_bin o_sub (ve_bin o_add (vo_var (pv 1)) ve_int.vo).vo (vo_var (pv 3))) va_nil))).vo) (fun _ h => ps_set (i := 4) sc__law_stage.nd (by rfl) (Or.inl (by rfl)) h))
  (vss_cons (vs_if (vw_or (vt_val (ve_var (pv 2))) (vw_or1 (vt_cmp (o_eq hr.units) (ve_call F__law_pick (hr.mono h__law_pick) (by rfl) (va_cons (ve_var (pv 0)) (va_cons ve_int va_nil))).vo ve_int.vo))).vt
  (vss_one (vs_ret (ve_tup (va_cons ve_str (va_cons (ve_var (pv 3)) (va_cons (ve_var (pv 4)) va_nil))))))
  vss_nil)
  (vss_cons (vs_set (ve_call F__law_pick (hr.mono h__law_pick) (by rfl) (va_cons (ve_var (pv 0)) (va_cons ve_int va_nil))) (fun _ h => ps_set (i := 5) sc__law_stage.nd (by rfl) (Or.inl (by rfl)) h))
  (vss_cons (vs_if (vt_cmp (o_eq hr.units) (vo_var (pv 5)) ve_int.vo)
  (vss_one (vs_ret (ve_tup (va_cons ve_str (va_cons (ve_var (pv 3)) (va_cons (ve_var (pv 4)) va_nil))))))
  vss_nil)
  (vss_cons (vs_if (vt_cmp (o_eq hr.units) (vo_var (pv 5)) ve_int.vo)
  (vss_one (vs_ret (ve_tup (va_cons ve_str (va_cons (ve_bin o_add ve_int.vo (ve_call F__law_pick (hr.mono h__law_pick) (by rfl) (va_cons (ve_var (pv 0)) (va_cons ve_int va_nil))).vo) va_nil)))))
  vss_nil)
  (vss_one (vs_ret (ve_tup (va_cons ve_str (va_cons (ve_call F__law_pick (hr.mono h__law_pick) (by rfl) (va_cons (ve_var (pv 0)) (va_cons (ve_callB (n_min2 (by rfl)) (by rfl) nb.min bb_min (vu_cons ve_int.vo (vu_cons (ve_bin o_add (vo_var (pv 1)) ve_int.vo).vo vu_nil))) va_nil))) (va_cons (ve_call F__law_pick (hr.mono h__law_pick) (by rfl) (va_cons (ve_var (pv 0)) (va_cons (ve_callB (n_min2 (by rfl)) (by rfl) nb.min bb_min (vu_cons ve_int.vo (vu_cons (ve_bin o_add (vo_var (pv 1)) ve_int.vo).vo vu_nil))) va_nil))) va_nil))))))))))))

abbrev s__law_chain : Stmt := top 42
theorem sc__law_chain : FnScope ["_law_deck_here", "_law_most", "_law_many", "_law_top", "_law_parts", "_law_bare", "_law_turn", "_law_part"] ["_law_deck_here", "_law_most", "_law_many"] (defScope s__law_chain) := ⟨rfl, rfl, rfl, by decide +kernel, rfl, by decide +kernel, by decide +kernel⟩
theorem b__law_chain {P : Program} {w : World} {K : PySem.W.Frag} {mg : Str → Option Value} {base : Heap} {k : Nat} (nb : Nob mg) {sp__law_pick : FSpec} {k__law_pick : Nat} (F__law_pick : FnV P w K mg base "_law_pick" 2 k__law_pick sp__law_pick) (h__law_pick : k__law_pick ≤ k) {sp__law_stage : FSpec} {k__law_stage : Nat} (F__law_stage : FnV P w K mg base "_law_stage" 3 k__law_stage sp__law_stage) (h__law_stage : k__law_stage ≤ k) {f : Addr} {cdv : Value} {A : Around} {outer : List Env} {s : Shared} {H : Hp} {E : XK} {B : Hp} {g0 : Gh} (hr : Room k (A.deeper (envOfC "_law_chain" (defScope s__law_chain) s.heap.objs.size f cdv))) :
    VSs (cxX P w K mg base ["_law_deck_here", "_law_most", "_law_many", "_law_top", "_law_parts", "_law_bare", "_law_turn", "_law_part"] "_law_chain" (defScope s__law_chain) f cdv A outer s H E) B g0 (defBody s__law_chain) (wf_law_chain sp__law_pick sp__law_stage) :=
  (vss_cons (vs_pr3 (vl_cons (ve_bin o_add ve_int.vo (ve_call F__law_pick (hr.mono h__law_pick) (by rfl) (va_cons (ve_var (pv 0)) (va_cons (ve_var (pv 1)) va_nil))).vo) (fun _ _ => (vl_cons (ve_tup va_nil) (fun _ _ => (vl_cons ve_int (fun _ _ => vl_nil)))))) (fun _ h => ps_par3 (by rfl) sc__law_chain.nd (by rfl) (by rfl) (by rfl) (by decide) (by decide) (by decide) (by rfl) (by rfl) (by rfl) h (by rfl)))
  (vss_cons (vs_for PassesOwn.never (by rfl) (vi_range1 (by rfl) nb.range (va_cons (ve_call F__law_pick (hr.mono h__law_pick) (by rfl) (va_cons (ve_var (pv 0)) (va_cons (ve_bin o_add (vo_var (pv 2)) ve_int.vo) va_nil))) va_nil)) (vg_name (pg_name (i := 6) sc__law_chain.nd (by rfl) (Or.inl (by rfl))))
  (vss_cons (vs_set (ve_call F__law_stage (hr.mono h__law_stage) (by rfl) (va_cons (ve_var (pv 0)) (va_cons (ve_var (pv 3)) (va_cons (ve_cmp (o_eq hr.units) (vo_var (pv 5)) ve_int.vo) va_nil)))) (fun _ h => ps_set (i := 7) sc__law_chain.nd (by rfl) (Or.inl (by rfl)) h))
  (vss_cons (vs_set (ve_bin o_add (vo_var (pv 5)) (ve_if (vt_cmp (o_eq hr.units) (ve_ix (o_ixX hr.u65) (vo_var (pv 7)) ve_int.vo).vo ve_str.vo) ve_int ve_int).vo) (fun _ h => ps_set (i := 5) sc__law_chain.nd (by rfl) (Or.inl (by rfl)) h))
  (vss_one (vs_set (ve_bin o_add (vo_var (pv 4)) (ve_tup (va_cons (ve_var (pv 7)) va_nil)).vo) (fun _ h => ps_set (i := 4) sc__law_chain.nd (by rfl) (Or.inl (by rfl)) h))))))
  (vss_one (vs_ret (ve_tup (va_cons (ve_var (pv 3)) (va_cons (ve_call F__law_pick (hr.mono h__law_pick) (by rfl) (va_cons (ve_var (pv 0)) (va_cons (ve_bin o_add (vo_var (pv 3)) ve_int.vo) va_nil))) (va_cons (ve_var (pv 4)) va_nil))))))))

abbrev s__law_table : Stmt := top 44
theorem sc__law_table : FnScope ["_law_c", "_law_firsts", "_law_table_here", "_law_order", "_law_at", "_law_kept", "_law_level", "_law_made", "_law_there"] ["_law_c", "_law_firsts"] (defScope s__law_table) := ⟨rfl, rfl, rfl, by decide +kernel, rfl, by decide +kernel, by decide +kernel⟩
theorem b__law_table {P : Program} {w : World} {K : PySem.W.Frag} {mg : Str → Option Value} {base : Heap} {k : Nat} (nb : Nob mg) {sp__law_tick : FSpec} {k__law_tick : Nat} (F__law_tick : FnV P w K mg base "_law_tick" 3 k__law_tick sp__law_tick) (h__law_tick : k__law_tick ≤ k) {f : Addr} {cdv : Value} {A : Around} {outer : List Env} {s : Shared} {H : Hp} {E : XK} {B : Hp} {g0 : Gh} (hr : Room k (A.deeper (envOfC "_law_table" (defScope s__law_table) s.heap.objs.size f cdv))) :
    VSs (cxX P w K mg base ["_law_c", "_law_firsts", "_law_table_here", "_law_order", "_law_at", "_law_kept", "_law_level", "_law_made", "_law_there"] "_law_table" (defScope s__law_table) f cdv A outer s H E) B g0 (defBody s__law_table) (wf_law_table sp__law_tick) :=
  (vss_cons (vs_pr3C (vl_cons ve_dct0 (fun _ _ => (vl_cons (ve_callTy (n_listX (by rfl)) (by rfl) nb.list bb_list (vu_cons (vo_var (pv 1)) vu_nil)) (fun _ _ => (vl_cons ve_int (fun _ _ => vl_nil)))))) (fun _ h => ps_tupC3 (by rfl) sc__law_table.nd (by rfl) (by rfl) (by rfl) (.inr (by rfl)) (.inl (by rfl)) (.inl (by rfl)) (.inl (by rfl)) (.inr (by rfl)) (.inr (by rfl)) h (by rfl)))
  (vss_cons (vs_while PassesOwn.never (vt_cmp o_lt (vo_var (pv 4)) (ve_callB n_lenX (by rfl) nb.len bb_len (vu_cons (vo_var (pv 3)) vu_nil)).vo)
  (vss_cons (vs_set (ve_ix (o_ixX hr.u65) (vo_var (pv 3)) (vo_var (pv 4))) (fun _ h => ps_set (i := 5) sc__law_table.nd (by rfl) (Or.inr (by rfl)) h))
  (vss_cons (vs_if (vt_cmp (o_inXt hr.u65) (vo_var (pv 5)) (vo_var (pv 2)))
  (vss_cons (vs_setX (ve_lc (own := [("_law_level", 6)]) (is := [6]) (by rfl) sc__law_table.nd (vi_range1 (by rfl) nb.range (va_cons (ve_bin o_add (ve_ix (o_ixX hr.u65) (vo_var (pv 0)) ve_int.vo).vo ve_int.vo) va_nil)) (by rfl) ⟨fun _ _ _ _ _ _ _ => (vg_name (pg_name (i := 6) sc__law_table.nd (by rfl) (Or.inl (by rfl)))), fun _ _ _ _ _ _ _ => vts_nil, fun _ _ _ _ _ _ _ => (ve_call F__law_tick (hr.mono h__law_tick) (by rfl) (va_cons (ve_var (pv 0)) (va_cons (ve_var (pv 5)) (va_cons (ve_var (pv 6)) va_nil))))⟩ (by decide)) (pv 2) (vo_var (pv 5)) (fun _ _ _ h1 h2 h3 => ps_asg h1 (pg_sub h2 h3 (set_x hr.u65))))
  (vss_one (vs_set (ve_bin o_add (vo_var (pv 3)) (ve_lc (own := [("_law_made", 7), ("_law_there", 8)]) (is := ([7] ++ ([8] ++ []))) (by rfl) sc__law_table.nd (vi_wk (ve_ix (o_ixX hr.u65) (vo_var (pv 2)) (vo_var (pv 5)))) (by rfl) ⟨fun _ _ _ _ _ _ _ => (vg_tupL (by rfl) (vgs_cons (vg_name (pg_name (i := 7) sc__law_table.nd (by rfl) (Or.inl (by rfl)))) (vgs_cons (vg_name (pg_name (i := 8) sc__law_table.nd (by rfl) (Or.inl (by rfl)))) vgs_nil)) (lenC exN (lenC exN lenN))), fun _ _ _ _ _ _ _ => (vts_one (vt_cmp (o_inXt hr.u65) (vo_var (pv 8)) (vo_var (pv 2)))), fun _ _ _ _ _ _ _ => (ve_var (pv 8))⟩ (by decide)).vo) (fun _ h => ps_set (i := 3) sc__law_table.nd (by rfl) (Or.inl (by rfl)) h))))
  vss_nil)
  (vss_one (vs_set (ve_bin o_add (vo_var (pv 4)) ve_int.vo) (fun _ h => ps_set (i := 4) sc__law_table.nd (by rfl) (Or.inl (by rfl)) h))))))
  (vss_one (vs_ret (ve_mv (pv 2))))))

abbrev s__law_bent : Stmt := top 45
theorem sc__law_bent : FnScope ["_law_deck_here", "_law_c", "_law_top", "_law_at", "_law_parts", "_law_index", "_law_part", "_law_new", "_law_ways", "_law_up", "_law_down", "_law_low"] ["_law_deck_here", "_law_c"] (defScope s__law_bent) := ⟨rfl, rfl, rfl, by decide +kernel, rfl, by decide +kernel, by decide +kernel⟩
theorem b__law_bent {P : Program} {w : World} {K : PySem.W.Frag} {mg : Str → Option Value} {base : Heap} {k : Nat} (nb : Nob mg) {sp__law_pick : FSpec} {k__law_pick : Nat} (F__law_pick : FnV P w K mg base "_law_pick" 2 k__law_pick sp__law_pick) (h__law_pick : k__law_pick ≤ k) {sp__law_one : FSpec} {k__law_one : Nat} (F__law_one : FnV P w K mg base "_law_one" 2 k__law_one sp__law_one) (h__law_one : k__law_one ≤ k) {f : Addr} {cdv : Value} {A : Around} {outer : List Env} {s : Shared} {H : Hp} {E : XK} {B : Hp} {g0 : Gh} (hr : Room k (A.deeper (envOfC "_law_bent" (defScope s__law_bent) s.heap.objs.size f cdv))) :
    VSs (cxX P w K mg base ["_law_deck_here", "_law_c", "_law_top", "_law_at", "_law_parts", "_law_index", "_law_part", "_law_new", "_law_ways", "_law_up", "_law_down", "_law_low"] "_law_bent" (defScope s__law_bent) f cdv A outer s H E) B g0 (defBody s__law_bent) (wf_law_bent sp__law_pick sp__law_one) :=
  (vss_cons (vs_asg (ve_var (pv 1)) (vg_tupL (by rfl) (vgs_cons (vg_name (pg_name (i := 2) sc__law_bent.nd (by rfl) (Or.inl (by rfl)))) (vgs_cons (vg_name (pg_name (i := 3) sc__law_bent.nd (by rfl) (Or.inl (by rfl)))) (vgs_cons (vg_name (pg_name (i := 4) sc__law_bent.nd (by rfl) (Or.inl (by rfl)))) vgs_nil))) (lenC exN (lenC exN (lenC exN lenN)))))
  (vss_cons (vs_if (vw_or (vt_cmp (o_eq hr.units) (vo_var (pv 4)) (ve_tup va_nil).vo) (vw_or1 (vt_cmp (o_eq hr.units) (ve_call F__law_pick (hr.mono h__law_pick) (by rfl) (va_cons (ve_var (pv 0)) (va_cons ve_int va_nil))).vo ve_int.vo))).vt
  (vss_one (vs_ret (ve_tup (va_cons (ve_var (pv 2)) (va_cons (ve_call F__law_pick (hr.mono h__law_pick) (by rfl) (va_cons (ve_var (pv 0)) (va_cons (ve_bin o_add (vo_var (pv 2)) ve_int.vo) va_nil))) (va_cons (ve_var (pv 4)) va_nil))))))
  vss_nil)
  (vss_cons (vs_set (ve_call F__law_pick (hr.mono h__law_pick) (by rfl) (va_cons (ve_var (pv 0)) (va_cons (ve_callB n_lenX (by rfl) nb.len bb_len (vu_cons (vo_var (pv 4)) vu_nil)) va_nil))) (fun _ h => ps_set (i := 5) sc__law_bent.nd (by rfl) (Or.inl (by rfl)) h))
  (vss_cons (vs_set (ve_ix (o_ixX hr.u65) (vo_var (pv 4)) (vo_var (pv 5))) (fun _ h => ps_set (i := 6) sc__law_bent.nd (by rfl) (Or.inl (by rfl)) h))
  (vss_cons (vs_if (vt_cmp (o_eq hr.units) (ve_ix (o_ixX hr.u65) (vo_var (pv 6)) ve_int.vo).vo ve_str.vo)
  (vss_one (vs_set (ve_tup (va_cons ve_str (va_cons (ve_bin o_sub ve_int.vo (ve_ix (o_ixX hr.u65) (vo_var (pv 6)) ve_int.vo).vo) va_nil))) (fun _ h => ps_set (i := 7) sc__law_bent.nd (by rfl) (Or.inl (by rfl)) h)))
  (vss_one (vs_if (vt_cmp (o_eq hr.units) (ve_ix (o_ixX hr.u65) (vo_var (pv 6)) ve_int.vo).vo ve_str.vo)
  (vss_cons (vs_set (ve_lst (va_cons (ve_tup (va_cons (ve_bin o_add (ve_ix (o_ixX hr.u65) (vo_var (pv 6)) ve_int.vo).vo ve_int.vo) (va_cons (ve_ix (o_ixX hr.u65) (vo_var (pv 6)) ve_int.vo) va_nil))) (va_cons (ve_tup (va_cons (ve_bin o_sub (ve_ix (o_ixX hr.u65) (vo_var (pv 6)) ve_int.vo).vo ve_int.vo) (va_cons (ve_ix (o_ixX hr.u65) (vo_var (pv 6)) ve_int.vo) va_nil))) (va_cons (ve_tup (va_cons (ve_ix (o_ixX hr.u65) (vo_var (pv 6)) ve_int.vo) (va_cons (ve_bin o_add (ve_ix (o_ixX hr.u65) (vo_var (pv 6)) ve_int.vo).vo ve_int.vo) va_nil))) (va_cons (ve_tup (va_cons (ve_ix (o_ixX hr.u65) (vo_var (pv 6)) ve_int.vo) (va_cons (ve_bin o_sub (ve_ix (o_ixX hr.u65) (vo_var (pv 6)) ve_int.vo).vo ve_int.vo) va_nil))) va_nil))))) (fun _ h => ps_set (i := 8) sc__law_bent.nd (by rfl) (Or.inl (by rfl)) h))
  (vss_cons (vs_asg (ve_call F__law_one (hr.mono h__law_one) (by rfl) (va_cons (ve_var (pv 0)) (va_cons (ve_var (pv 8)) va_nil))) (vg_tupL (by rfl) (vgs_cons (vg_name (pg_name (i := 9) sc__law_bent.nd (by rfl) (Or.inl (by rfl)))) (vgs_cons (vg_name (pg_name (i := 10) sc__law_bent.nd (by rfl) (Or.inl (by rfl)))) vgs_nil)) (lenC exN (lenC exN lenN))))
  (vss_one (vs_set (ve_tup (va_cons ve_str (va_cons (ve_callB (n_min2 (by rfl)) (by rfl) nb.min bb_min (vu_cons ve_int.vo (vu_cons (ve_callB (n_max2 (by rfl)) (by rfl) nb.max bb_max (vu_cons ve_int.vo (vu_cons (vo_var (pv 9)) vu_nil))).vo vu_nil))) (va_cons (ve_callB (n_min2 (by rfl)) (by rfl) nb.min bb_min (vu_cons ve_int.vo (vu_cons (ve_callB (n_max2 (by rfl)) (by rfl) nb.max bb_max (vu_cons ve_int.vo (vu_cons (vo_var (pv 10)) vu_nil))).vo vu_nil))) va_nil)))) (fun _ h => ps_set (i := 7) sc__law_bent.nd (by rfl) (Or.inl (by rfl)) h)))))
  (vss_cons (vs_set (ve_call F__law_pick (hr.mono h__law_pick) (by rfl) (va_cons (ve_var (pv 0)) (va_cons (ve_bin o_add (vo_var (pv 2)) ve_int.vo) va_nil))) (fun _ h => ps_set (i := 11) sc__law_bent.nd (by rfl) (Or.inl (by rfl)) h))
  (vss_one (vs_set (ve_tup (va_cons (ve_ix (o_ixX hr.u65) (vo_var (pv 6)) ve_int.vo) (va_cons (ve_var (pv 11)) (va_cons (ve_bin o_add (vo_var (pv 11)) (ve_call F__law_pick (hr.mono h__law_pick) (by rfl) (va_cons (ve_var (pv 0)) (va_cons (ve_bin o_sub (ve_bin o_add (vo_var (pv 2)) ve_int.vo).vo (vo_var (pv 11))) va_nil))).vo) va_nil)))) (fun _ h => ps_set (i := 7) sc__law_bent.nd (by rfl) (Or.inl (by rfl)) h)))))))
  (vss_cons (vs_if (vt_cmp (o_eq hr.units) (ve_call F__law_pick (hr.mono h__law_pick) (by rfl) (va_cons (ve_var (pv 0)) (va_cons ve_int va_nil))).vo ve_int.vo)
  (vss_one (vs_ret (ve_tup (va_cons (ve_var (pv 2)) (va_cons (ve_var (pv 3)) (va_cons (ve_bin o_add (ve_slice (vo_var (pv 4)) vp_none (vp_some (ve_var (pv 5)))).vo (ve_slice (vo_var (pv 4)) (vp_some (ve_bin o_add (vo_var (pv 5)) ve_int.vo)) vp_none).vo) va_nil))))))
  vss_nil)
  (vss_one (vs_ret (ve_tup (va_cons (ve_var (pv 2)) (va_cons (ve_var (pv 3)) (va_cons (ve_bin o_add (ve_bin o_add (ve_slice (vo_var (pv 4)) vp_none (vp_some (ve_var (pv 5)))).vo (ve_tup (va_cons (ve_var (pv 7)) va_nil)).vo).vo (ve_slice (vo_var (pv 4)) (vp_some (ve_bin o_add (vo_var (pv 5)) ve_int.vo)) vp_none).vo) va_nil))))))))))))

abbrev s__law_all_levels : Stmt := top 46
theorem sc__law_all_levels : FnScope ["_law_top", "_law_many", "_law_found", "_law_turn", "_law_longer", "_law_row", "_law_level"] ["_law_top", "_law_many"] (defScope s__law_all_levels) := ⟨rfl, rfl, rfl, by decide +kernel, rfl, by decide +kernel, by decide +kernel⟩
theorem b__law_all_levels {P : Program} {w : World} {K : PySem.W.Frag} {mg : Str → Option Value} {base : Heap} {k : Nat} (nb : Nob mg) {f : Addr} {cdv : Value} {A : Around} {outer : List Env} {s : Shared} {H : Hp} {E : XK} {B : Hp} {g0 : Gh} (hr : Room k (A.deeper (envOfC "_law_all_levels" (defScope s__law_all_levels) s.heap.objs.size f cdv))) :
    VSs (cxX P w K mg base ["_law_top", "_law_many", "_law_found", "_law_turn", "_law_longer", "_law_row", "_law_level"] "_law_all_levels" (defScope s__law_all_levels) f cdv A outer s H E) B g0 (defBody s__law_all_levels) (wf_law_all_levels) :=
  (vss_cons (vs_set (ve_lst (va_cons (ve_tup va_nil) va_nil)) (fun _ h => ps_set (i := 2) sc__law_all_levels.nd (by rfl) (Or.inl (by rfl)) h))
  (vss_cons (vs_for PassesOwn.never (by rfl) (vi_range1 (by rfl) nb.range (va_cons (ve_var (pv 1)) va_nil)) (vg_name (pg_name (i := 3) sc__law_all_levels.nd (by rfl) (Or.inl (by rfl))))
  (vss_cons (vs_set (ve_lst va_nil) (fun _ h => ps_set (i := 4) sc__law_all_levels.nd (by rfl) (Or.inl (by rfl)) h))
  (vss_cons (vs_for PassesOwn.never (by rfl) (vi_wk (ve_var (pv 2))) (vg_name (pg_name (i := 5) sc__law_all_levels.nd (by rfl) (Or.inr (by rfl))))
  (vss_one (vs_set (ve_bin o_add (vo_var (pv 4)) (ve_lc (own := [("_law_level", 6)]) (is := [6]) (by rfl) sc__law_all_levels.nd (vi_range1 (by rfl) nb.range (va_cons (ve_bin o_add (vo_var (pv 0)) ve_int.vo) va_nil)) (by rfl) ⟨fun _ _ _ _ _ _ _ => (vg_name (pg_name (i := 6) sc__law_all_levels.nd (by rfl) (Or.inl (by rfl)))), fun _ _ _ _ _ _ _ => vts_nil, fun _ _ _ _ _ _ _ => (ve_bin o_add (vo_var (pv 5)) (ve_tup (va_cons (ve_var (pv 6)) va_nil)).vo)⟩ (by decide)).vo) (fun _ h => ps_set (i := 4) sc__law_all_levels.nd (by rfl) (Or.inl (by rfl)) h))))
  (vss_one (vs_set (ve_var (pv 4)) (fun _ h => ps_set (i := 2) sc__law_all_levels.nd (by rfl) (Or.inl (by rfl)) h))))))
  (vss_one (vs_ret (ve_mv (pv 2))))))

abbrev s__law_first_apart : Stmt := top 47
theorem sc__law_first_apart : FnScope ["_law_c", "_law_two", "_law_many", "_law_length", "_law_levels_here"] ["_law_c", "_law_two", "_law_many"] (defScope s__law_first_apart) := ⟨rfl, rfl, rfl, by decide +kernel, rfl, by decide +kernel, by decide +kernel⟩
theorem b__law_first_apart {P : Program} {w : World} {K : PySem.W.Frag} {mg : Str → Option Value} {base : Heap} {k : Nat} (nb : Nob mg) {sp__law_all_levels : FSpec} {k__law_all_levels : Nat} (F__law_all_levels : FnV P w K mg base "_law_all_levels" 2 k__law_all_levels sp__law_all_levels) (h__law_all_levels : k__law_all_levels ≤ k) {sp__law_outs : FSpec} {k__law_outs : Nat} (F__law_outs : FnV P w K mg base "_law_outs" 2 k__law_outs sp__law_outs) (h__law_outs : k__law_outs ≤ k) {f : Addr} {cdv : Value} {A : Around} {outer : List Env} {s : Shared} {H : Hp} {E : XK} {B : Hp} {g0 : Gh} (hr : Room k (A.deeper (envOfC "_law_first_apart" (defScope s__law_first_apart) s.heap.objs.size f cdv))) :
    VSs (cxX P w K mg base ["_law_c", "_law_two", "_law_many", "_law_length", "_law_levels_here"] "_law_first_apart" (defScope s__law_first_apart) f cdv A outer s H E) B g0 (defBody s__law_first_apart) (wf_law_first_apart sp__law_all_levels sp__law_outs) :=
  (vss_cons (vs_for PassesOwn.never (by rfl) (vi_range2 (by rfl) nb.range (va_cons ve_int (va_cons (ve_bin o_add (vo_var (pv 2)) ve_int.vo) va_nil))) (vg_name (pg_name (i := 3) sc__law_first_apart.nd (by rfl) (Or.inl (by rfl))))
  (vss_one (vs_for PassesOwn.never (by rfl) (vi_wk (ve_call F__law_all_levels (hr.mono h__law_all_levels) (by rfl) (va_cons (ve_ix (o_ixX hr.u65) (vo_var (pv 0)) ve_int.vo) (va_cons (ve_var (pv 3)) va_nil)))) (vg_name (pg_name (i := 4) sc__law_first_apart.nd (by rfl) (Or.inl (by rfl))))
  (vss_one (vs_if (vt_cmp (o_ne hr.units) (ve_call F__law_outs (hr.mono h__law_outs) (by rfl) (va_cons (ve_var (pv 0)) (va_cons (ve_var (pv 4)) va_nil))).vo (ve_call F__law_outs (hr.mono h__law_outs) (by rfl) (va_cons (ve_var (pv 1)) (va_cons (ve_var (pv 4)) va_nil))).vo)
  (vss_one (vs_ret (ve_mv (pv 4))))
  vss_nil)))))
  (vss_one (vs_ret ve_non)))

abbrev s_law : Stmt := top 48
theorem sc_law : FnScope ["_law_script", "_law_k", "_law_deck_here", "_law_turn", "_law_c", "_law_two", "_law_due", "_law_many", "_law_found", "_law_one_here"] ["_law_script"] (defScope s_law) := ⟨rfl, rfl, rfl, by decide +kernel, rfl, by decide +kernel, by decide +kernel⟩
theorem b_law {P : Program} {w : World} {K : PySem.W.Frag} {mg : Str → Option Value} {base : Heap} {k : Nat} (nb : Nob mg) {sp_parting_signal : FSpec} {k_parting_signal : Nat} (F_parting_signal : FnV P w K mg base "parting_signal" 2 k_parting_signal sp_parting_signal) (h_parting_signal : k_parting_signal ≤ k) {sp_bound : FSpec} {k_bound : Nat} (F_bound : FnV P w K mg base "bound" 2 k_bound sp_bound) (h_bound : k_bound ≤ k) {sp_alike : FSpec} {k_alike : Nat} (F_alike : FnV P w K mg base "alike" 2 k_alike sp_alike) (h_alike : k_alike ≤ k) {sp__law_bool : FSpec} {k__law_bool : Nat} (F__law_bool : FnV P w K mg base "_law_bool" 2 k__law_bool sp__law_bool) (h__law_bool : k__law_bool ≤ k) {sp__law_first_apart : FSpec} {k__law_first_apart : Nat} (F__law_first_apart : FnV P w K mg base "_law_first_apart" 3 k__law_first_apart sp__law_first_apart) (h__law_first_apart : k__law_first_apart ≤ k) {sp__law_table : FSpec} {k__law_table : Nat} (F__law_table : FnV P w K mg base "_law_table" 2 k__law_table sp__law_table) (h__law_table : k__law_table ≤ k) {sp__law_first : FSpec} {k__law_first : Nat} (F__law_first : FnV P w K mg base "_law_first" 1 k__law_first sp__law_first) (h__law_first : k__law_first ≤ k) {sp__law_bent : FSpec} {k__law_bent : Nat} (F__law_bent : FnV P w K mg base "_law_bent" 2 k__law_bent sp__law_bent) (h__law_bent : k__law_bent ≤ k) {sp__law_chain : FSpec} {k__law_chain : Nat} (F__law_chain : FnV P w K mg base "_law_chain" 3 k__law_chain sp__law_chain) (h__law_chain : k__law_chain ≤ k) {sp__law_deck : FSpec} {k__law_deck : Nat} (F__law_deck : FnV P w K mg base "_law_deck" 2 k__law_deck sp__law_deck) (h__law_deck : k__law_deck ≤ k) {f : Addr} {cdv : Value} {A : Around} {outer : List Env} {s : Shared} {H : Hp} {E : XK} {B : Hp} {g0 : Gh} (hr : Room k (A.deeper (envOfC "law" (defScope s_law) s.heap.objs.size f cdv))) :
    VSs (cxX P w K mg base ["_law_script", "_law_k", "_law_deck_here", "_law_turn", "_law_c", "_law_two", "_law_due", "_law_many", "_law_found", "_law_one_here"] "law" (defScope s_law) f cdv A outer s H E) B g0 (defBody s_law) (wf_law_k04 sp_parting_signal sp_bound sp_alike sp__law_bool sp__law_first_apart sp__law_table sp__law_first sp__law_bent sp__law_chain sp__law_deck) :=
  (vss_cons (vs_for PassesOwn.never (by rfl) (vi_range1 (by rfl) nb.range (va_cons ve_int va_nil)) (vg_name (pg_name (i := 1) sc_law.nd (by rfl) (Or.inl (by rfl))))
  (vss_cons (vs_pub (ve_call F__law_deck (hr.mono h__law_deck) (by rfl) (va_cons (ve_ix (o_ixX hr.u65) (ve_bin o_add (vo_var (pv 0)) (ve_bin o_mul (ve_lst (va_cons ve_int va_nil)).vo ve_int.vo).vo).vo (vo_var (pv 1))) (va_cons (ve_var (pv 1)) va_nil))) (fun _ h => ps_set (i := 2) sc_law.nd (by rfl) (Or.inl (by rfl)) h))
  (vss_one (vs_for PassesOwn.never (by rfl) (vi_range1 (by rfl) nb.range (va_cons ve_int va_nil)) (vg_name (pg_name (i := 3) sc_law.nd (by rfl) (Or.inl (by rfl))))
  (vss_cons (vs_set (ve_call F__law_chain (hr.mono h__law_chain) (by rfl) (va_cons (ve_var (pv 2)) (va_cons ve_int (va_cons ve_int va_nil)))) (fun _ h => ps_set (i := 4) sc_law.nd (by rfl) (Or.inl (by rfl)) h))
  (vss_cons (vs_set (ve_call F__law_bent (hr.mono h__law_bent) (by rfl) (va_cons (ve_var (pv 2)) (va_cons (ve_var (pv 4)) va_nil))) (fun _ h => ps_set (i := 5) sc_law.nd (by rfl) (Or.inl (by rfl)) h))
  (vss_cons (vs_set (ve_bin o_sub (ve_bin o_add (ve_callB n_lenX (by rfl) nb.len bb_len (vu_cons (ve_call F__law_table (hr.mono h__law_table) (by rfl) (va_cons (ve_var (pv 4)) (va_cons (ve_lst (va_cons (ve_call F__law_first (hr.mono h__law_first) (by rfl) (va_cons (ve_var (pv 4)) va_nil)) va_nil)) va_nil))).vo vu_nil)).vo (ve_callB n_lenX (by rfl) nb.len bb_len (vu_cons (ve_call F__law_table (hr.mono h__law_table) (by rfl) (va_cons (ve_var (pv 5)) (va_cons (ve_lst (va_cons (ve_call F__law_first (hr.mono h__law_first) (by rfl) (va_cons (ve_var (pv 5)) va_nil)) va_nil)) va_nil))).vo vu_nil)).vo).vo ve_int.vo) (fun _ h => ps_set (i := 6) sc_law.nd (by rfl) (Or.inl (by rfl)) h))
  (vss_cons (vs_if (vw_or (vt_cmp (o_ne hr.units) (ve_call F_bound (hr.mono h_bound) (by rfl) (va_cons (ve_var (pv 4)) (va_cons (ve_var (pv 5)) va_nil))).vo (vo_var (pv 6))) (vw_or1 (vt_cmp (o_ne hr.units) (ve_call F_bound (hr.mono h_bound) (by rfl) (va_cons (ve_var (pv 5)) (va_cons (ve_var (pv 4)) va_nil))).vo (vo_var (pv 6))))).vt
  (vss_one (vs_ret ve_bl))
  vss_nil)
  (vss_cons (vs_set (ve_callB (n_min2 (by rfl)) (by rfl) nb.min bb_min (vu_cons (vo_var (pv 6)) (vu_cons (ve_if (vt_cmp (o_eq hr.units) (ve_ix (o_ixX hr.u65) (vo_var (pv 4)) ve_int.vo).vo ve_int.vo) ve_int ve_int).vo vu_nil))) (fun _ h => ps_set (i := 7) sc_law.nd (by rfl) (Or.inl (by rfl)) h))
  (vss_cons (vs_set (ve_call F__law_first_apart (hr.mono h__law_first_apart) (by rfl) (va_cons (ve_var (pv 4)) (va_cons (ve_var (pv 5)) (va_cons (ve_var (pv 7)) va_nil)))) (fun _ h => ps_set (i := 8) sc_law.nd (by rfl) (Or.inl (by rfl)) h))
  (vss_cons (vs_if (vw_or (vt_cmp o_isnot (vo_var (pv 8)) ve_non.vo) (vw_or1 (vt_cmp (o_eq hr.units) (vo_var (pv 7)) (vo_var (pv 6))))).vt
  (vss_one (vs_if (vw_or (vt_cmp (o_ne hr.units) (ve_call F_parting_signal (hr.mono h_parting_signal) (by rfl) (va_cons (ve_var (pv 4)) (va_cons (ve_var (pv 5)) va_nil))).vo (vo_var (pv 8))) (vw_or1 (vt_not (vt_val (ve_call F__law_bool (hr.mono h__law_bool) (by rfl) (va_cons (ve_call F_alike (hr.mono h_alike) (by rfl) (va_cons (ve_var (pv 4)) (va_cons (ve_var (pv 5)) va_nil))) (va_cons (ve_cmp o_is (vo_var (pv 8)) ve_non.vo) va_nil))))))).vt
  (vss_one (vs_ret ve_bl))
  vss_nil))
  vss_nil)
  (vss_one (vs_if (vw_or (vt_cmp o_isnot (ve_call F_alike (hr.mono h_alike) (by rfl) (va_cons (ve_var (pv 4)) (va_cons (ve_var (pv 4)) va_nil))).vo ve_bl.vo) (vw_or1 (vt_cmp o_isnot (ve_call F_parting_signal (hr.mono h_parting_signal) (by rfl) (va_cons (ve_var (pv 5)) (va_cons (ve_var (pv 5)) va_nil))).vo ve_non.vo))).vt
  (vss_one (vs_ret ve_bl))
  vss_nil)))))))))))))
  (vss_cons (vs_pr2C (vl_cons (ve_tup (va_cons ve_int (va_cons ve_int (va_cons (ve_tup (va_cons (ve_tup (va_cons ve_str (va_cons ve_int va_nil))) va_nil)) va_nil)))) (fun _ _ => (vl_cons (ve_tup (va_cons ve_int (va_cons ve_int (va_cons (ve_tup (va_cons (ve_tup (va_cons ve_str (va_cons ve_int va_nil))) va_nil)) va_nil)))) (fun _ _ => vl_nil)))) (fun _ h => ps_tupC2 (by rfl) sc_law.nd (by rfl) (by rfl) (.inl (by rfl)) (.inl (by rfl)) (.inr (by rfl)) (.inr (by rfl)) h (by rfl)))
  (vss_one (vs_ret (ve_and (ve_cmp (o_eq hr.units) (ve_call F_parting_signal (hr.mono h_parting_signal) (by rfl) (va_cons (ve_var (pv 9)) (va_cons (ve_var (pv 5)) va_nil))).vo (ve_tup (va_cons ve_int (va_cons ve_int (va_cons ve_int va_nil)))).vo) (ve_one (ve_cmp (o_eq hr.units) (ve_call F_bound (hr.mono h_bound) (by rfl) (va_cons (ve_var (pv 9)) (va_cons (ve_var (pv 5)) va_nil))).vo ve_int.vo)))))))

end K04
end VC

set_option Elab.async false
set_option linter.all false
set_option maxRecDepth 100000
set_option maxHeartbeats 4000000
namespace VC
namespace K04
open PySem PySem.Spec PyProof.Rows L2
def d_is_from : He.DefD := ⟨("is_from", none), "is_from", "is_from", defArgs s_is_from, defBody s_is_from, defScope s_is_from, [], []⟩
def d_is_stage_of : He.DefD := ⟨("is_stage_of", none), "is_stage_of", "is_stage_of", defArgs s_is_stage_of, defBody s_is_stage_of, defScope s_is_stage_of, [], []⟩
def d_keeping : He.DefD := ⟨("keeping", none), "keeping", "keeping", defArgs s_keeping, defBody s_keeping, defScope s_keeping, [], []⟩
def d_is_chain_of : He.DefD := ⟨("is_chain_of", none), "is_chain_of", "is_chain_of", defArgs s_is_chain_of, defBody s_is_chain_of, defScope s_is_chain_of, [], []⟩
def d_need_chain : He.DefD := ⟨("need_chain", none), "need_chain", "need_chain", defArgs s_need_chain, defBody s_need_chain, defScope s_need_chain, [], []⟩
def d_need_pair : He.DefD := ⟨("need_pair", none), "need_pair", "need_pair", defArgs s_need_pair, defBody s_need_pair, defScope s_need_pair, [], []⟩
def d_between : He.DefD := ⟨("between", none), "between", "between", defArgs s_between, defBody s_between, defScope s_between, [], []⟩
def d_first_of : He.DefD := ⟨("first_of", none), "first_of", "first_of", defArgs s_first_of, defBody s_first_of, defScope s_first_of, [], []⟩
def d_first_state : He.DefD := ⟨("first_state", none), "first_state", "first_state", defArgs s_first_state, defBody s_first_state, defScope s_first_state, [], []⟩
def d_moved : He.DefD := ⟨("moved", none), "moved", "moved", defArgs s_moved, defBody s_moved, defScope s_moved, [], []⟩
def d_step : He.DefD := ⟨("step", none), "step", "step", defArgs s_step, defBody s_step, defScope s_step, [], []⟩
def d_with_place : He.DefD := ⟨("with_place", none), "with_place", "with_place", defArgs s_with_place, defBody s_with_place, defScope s_with_place, [], []⟩
def d_table_from : He.DefD := ⟨("table_from", none), "table_from", "table_from", defArgs s_table_from, defBody s_table_from, defScope s_table_from, [], []⟩
def d_rows_of : He.DefD := ⟨("rows_of", none), "rows_of", "rows_of", defArgs s_rows_of, defBody s_rows_of, defScope s_rows_of, [], []⟩
def d_row_to : He.DefD := ⟨("row_to", none), "row_to", "row_to", defArgs s_row_to, defBody s_row_to, defScope s_row_to, [], []⟩
def d_parted : He.DefD := ⟨("parted", none), "parted", "parted", defArgs s_parted, defBody s_parted, defScope s_parted, [], []⟩
def d_same_for_all : He.DefD := ⟨("same_for_all", none), "same_for_all", "same_for_all", defArgs s_same_for_all, defBody s_same_for_all, defScope s_same_for_all, [], []⟩
def d_alike : He.DefD := ⟨("alike", none), "alike", "alike", defArgs s_alike, defBody s_alike, defScope s_alike, [], []⟩
def d_parting_signal : He.DefD := ⟨("parting_signal", none), "parting_signal", "parting_signal", defArgs s_parting_signal, defBody s_parting_signal, defScope s_parting_signal, [], []⟩
def d_bound : He.DefD := ⟨("bound", none), "bound", "bound", defArgs s_bound, defBody s_bound, defScope s_bound, [], []⟩
def d__law_deck : He.DefD := ⟨("_law_deck", none), "_law_deck", "_law_deck", defArgs s__law_deck, defBody s__law_deck, defScope s__law_deck, [], []⟩
def d__law_pick : He.DefD := ⟨("_law_pick", none), "_law_pick", "_law_pick", defArgs s__law_pick, defBody s__law_pick, defScope s__law_pick, [], []⟩
def d__law_bool : He.DefD := ⟨("_law_bool", none), "_law_bool", "_law_bool", defArgs s__law_bool, defBody s__law_bool, defScope s__law_bool, [], []⟩
def d__law_one : He.DefD := ⟨("_law_one", none), "_law_one", "_law_one", defArgs s__law_one, defBody s__law_one, defScope s__law_one, [], []⟩
def d__law_first : He.DefD := ⟨("_law_first", none), "_law_first", "_law_first", defArgs s__law_first, defBody s__law_first, defScope s__law_first, [], []⟩
def d__law_tick : He.DefD := ⟨("_law_tick", none), "_law_tick", "_law_tick", defArgs s__law_tick, defBody s__law_tick, defScope s__law_tick, [], []⟩
def d__law_ran : He.DefD := ⟨("_law_ran", none), "_law_ran", "_law_ran", defArgs s__law_ran, defBody s__law_ran, defScope s__law_ran, [], []⟩
def d__law_outs : He.DefD := ⟨("_law_outs", none), "_law_outs", "_law_outs", defArgs s__law_outs, defBody s__law_outs, defScope s__law_outs, [], []⟩
def d__law_stage : He.DefD := ⟨("_law_stage", none), "_law_stage", "_law_stage", defArgs s__law_stage, defBody s__law_stage, defScope s__law_stage, [], []⟩
def d__law_chain : He.DefD := ⟨("_law_chain", none), "_law_chain", "_law_chain", defArgs s__law_chain, defBody s__law_chain, defScope s__law_chain, [], []⟩
def d__law_table : He.DefD := ⟨("_law_table", none), "_law_table", "_law_table", defArgs s__law_table, defBody s__law_table, defScope s__law_table, [], []⟩
def d__law_bent : He.DefD := ⟨("_law_bent", none), "_law_bent", "_law_bent", defArgs s__law_bent, defBody s__law_bent, defScope s__law_bent, [], []⟩
def d__law_all_levels : He.DefD := ⟨("_law_all_levels", none), "_law_all_levels", "_law_all_levels", defArgs s__law_all_levels, defBody s__law_all_levels, defScope s__law_all_levels, [], []⟩
def d__law_first_apart : He.DefD := ⟨("_law_first_apart", none), "_law_first_apart", "_law_first_apart", defArgs s__law_first_apart, defBody s__law_first_apart, defScope s__law_first_apart, [], []⟩
def d_law : He.DefD := ⟨("law", none), "law", "law", defArgs s_law, defBody s_law, defScope s_law, [], []⟩
def fn : List He.DefD := [d_is_from, d_is_stage_of, d_keeping, d_is_chain_of, d_need_chain, d_need_pair, d_between, d_first_of, d_first_state, d_moved, d_step, d_with_place, d_table_from, d_rows_of, d_row_to, d_parted, d_same_for_all, d_alike, d_parting_signal, d_bound, d__law_deck, d__law_pick, d__law_bool, d__law_one, d__law_first, d__law_tick, d__law_ran, d__law_outs, d__law_stage, d__law_chain, d__law_table, d__law_bent, d__law_all_levels, d__law_first_apart, d_law]
def fa : List He.Fa := ([.glo "is_from", .glo "is_stage_of", .glo "keeping", .glo "is_chain_of", .glo "need_chain", .glo "need_pair", .glo "between", .glo "first_of", .glo "first_state", .glo "moved", .glo "step", .glo "with_place", .glo "table_from", .glo "rows_of", .glo "row_to", .glo "parted", .glo "same_for_all", .glo "alike", .glo "parting_signal", .glo "bound", .glo "_law_deck", .glo "_law_pick", .glo "_law_bool", .glo "_law_one", .glo "_law_first", .glo "_law_tick", .glo "_law_ran", .glo "_law_outs", .glo "_law_stage", .glo "_law_chain"] : List He.Fa) ++ ([.glo "_law_table", .glo "_law_bent", .glo "_law_all_levels", .glo "_law_first_apart", .glo "law", .free "len", .free "min", .free "max", .free "int", .free "isinstance", .free "tuple", .free "list", .free "all", .free "sum", .free "bool", .free "str", .free "range", .free "zip", .free "enumerate", .free "sorted", .free "set", .free "dict", .free "abs", .int "MOST_TOP" 5, .int "MOST_WAIT" 2, .int "MOST_KEEPING" 2, .int "MOST_STAGES" 3] : List He.Fa)
abbrev R : PySem.W.OpenRow := PySem.W.OpenLaw.row PySem.Challenge.rw_slewchains_k04_whole_all_signals_up_to_t
abbrev hk : PySem.W.Hook := He.hookD 4 fa fn
def ob (s : PySem.W.SharedT) : He.AlD := He.obsDG 4 fa fn (HandSHeadRun.getT s)
theorem ob_eq (s : PySem.W.SharedT) : ob s = hk.obs s.abs := He.obsDG_eq (HandSHeadRun.getT_eq s)
def loose : List PySem.Str := (["ChainError", "InvalidChain", "InvalidPair", "MOST_TOP", "MOST_STAGES", "MOST_KEEPING", "MOST_WAIT", "is_from", "is_stage_of", "keeping", "is_chain_of", "need_chain", "need_pair", "between", "first_of", "first_state", "moved", "step", "with_place", "table_from", "rows_of", "row_to", "parted", "same_for_all", "alike", "parting_signal", "bound", "_law_deck", "_law_pick", "_law_bool"] : List PySem.Str) ++ (["_law_one", "_law_first", "_law_tick", "_law_ran", "_law_outs", "_law_stage", "_law_chain", "_law_levels", "_law_table", "_law_bent", "_law_all_levels", "_law_first_apart"] : List PySem.Str)
theorem run (w : World) : HandSHeadRun.RunEq R (PySem.W.view R.prog [48]) hk ob 6000 loose w := by
  intro os
  kernel_rfl
def spLaw (K : PySem.W.Frag) : Sp := fun vs H Q _ => ∃ (a : Addr) (ns : List Int), vs = [.ref a] ∧ SqL K H a (ns.map V.int) ∧ ns.length ≤ 63 ∧ Only H ∧ ∀ H', Q (.bl true) H'
theorem facts {P : Program} {w : World} {K : PySem.W.Frag} {h : Heap} {mg : Str → Option Value} {f : Addr} (X : K.In h) (G : h.Ns mainGlobals mg) (hfa : mg ("law" : Str) = some (.ref f)) (c : He.SaysD fa fn K) :
    ∃ fd : FuncData, (∀ (s : Shared) (v : Value), BindsTo s fd ⟨[v], []⟩ [("_law_script", v)]) ∧ ∀ base : Heap, K.In base → base.Ns mainGlobals mg → FnOk P w K mg base (L2.CX P w) 8 f fd ["_law_script"] (spLaw K) := by
  have nb : Nob mg := ⟨He.free_ok X G (c.fact 35 (f := .free "len") rfl), He.free_ok X G (c.fact 36 (f := .free "min") rfl), He.free_ok X G (c.fact 37 (f := .free "max") rfl), He.free_ok X G (c.fact 38 (f := .free "int") rfl), He.free_ok X G (c.fact 39 (f := .free "isinstance") rfl), He.free_ok X G (c.fact 40 (f := .free "tuple") rfl), He.free_ok X G (c.fact 41 (f := .free "list") rfl), He.free_ok X G (c.fact 42 (f := .free "all") rfl), He.free_ok X G (c.fact 43 (f := .free "sum") rfl), He.free_ok X G (c.fact 44 (f := .free "bool") rfl), He.free_ok X G (c.fact 45 (f := .free "str") rfl), He.free_ok X G (c.fact 46 (f := .free "range") rfl), He.free_ok X G (c.fact 47 (f := .free "zip") rfl), He.free_ok X G (c.fact 48 (f := .free "enumerate") rfl), He.free_ok X G (c.fact 49 (f := .free "sorted") rfl), He.free_ok X G (c.fact 50 (f := .free "set") rfl), He.free_ok X G (c.fact 51 (f := .free "dict") rfl), He.free_ok X G (c.fact 52 (f := .free "abs") rfl)⟩
  have c_MOST_TOP := He.int_ok X G (c.fact 53 (f := .int "MOST_TOP" 5) rfl)
  have c_MOST_WAIT := He.int_ok X G (c.fact 54 (f := .int "MOST_WAIT" 2) rfl)
  have c_MOST_KEEPING := He.int_ok X G (c.fact 55 (f := .int "MOST_KEEPING" 2) rfl)
  have c_MOST_STAGES := He.int_ok X G (c.fact 56 (f := .int "MOST_STAGES" 3) rfl)
  obtain ⟨fd_is_from, F_is_from⟩ := c.def_ 0 (d := d_is_from) rfl
  have g_is_from := He.glo_ok X G (c.fact 0 (f := .glo "is_from") rfl)
  obtain ⟨fd_is_stage_of, F_is_stage_of⟩ := c.def_ 1 (d := d_is_stage_of) rfl
  have g_is_stage_of := He.glo_ok X G (c.fact 1 (f := .glo "is_stage_of") rfl)
  obtain ⟨fd_keeping, F_keeping⟩ := c.def_ 2 (d := d_keeping) rfl
  have g_keeping := He.glo_ok X G (c.fact 2 (f := .glo "keeping") rfl)
  obtain ⟨fd_is_chain_of, F_is_chain_of⟩ := c.def_ 3 (d := d_is_chain_of) rfl
  have g_is_chain_of := He.glo_ok X G (c.fact 3 (f := .glo "is_chain_of") rfl)
  obtain ⟨fd_need_chain, F_need_chain⟩ := c.def_ 4 (d := d_need_chain) rfl
  have g_need_chain := He.glo_ok X G (c.fact 4 (f := .glo "need_chain") rfl)
  obtain ⟨fd_need_pair, F_need_pair⟩ := c.def_ 5 (d := d_need_pair) rfl
  have g_need_pair := He.glo_ok X G (c.fact 5 (f := .glo "need_pair") rfl)
  obtain ⟨fd_between, F_between⟩ := c.def_ 6 (d := d_between) rfl
  have g_between := He.glo_ok X G (c.fact 6 (f := .glo "between") rfl)
  obtain ⟨fd_first_of, F_first_of⟩ := c.def_ 7 (d := d_first_of) rfl
  have g_first_of := He.glo_ok X G (c.fact 7 (f := .glo "first_of") rfl)
  obtain ⟨fd_first_state, F_first_state⟩ := c.def_ 8 (d := d_first_state) rfl
  have g_first_state := He.glo_ok X G (c.fact 8 (f := .glo "first_state") rfl)
  obtain ⟨fd_moved, F_moved⟩ := c.def_ 9 (d := d_moved) rfl
  have g_moved := He.glo_ok X G (c.fact 9 (f := .glo "moved") rfl)
  obtain ⟨fd_step, F_step⟩ := c.def_ 10 (d := d_step) rfl
  have g_step := He.glo_ok X G (c.fact 10 (f := .glo "step") rfl)
  obtain ⟨fd_with_place, F_with_place⟩ := c.def_ 11 (d := d_with_place) rfl
  have g_with_place := He.glo_ok X G (c.fact 11 (f := .glo "with_place") rfl)
  obtain ⟨fd_table_from, F_table_from⟩ := c.def_ 12 (d := d_table_from) rfl
  have g_table_from := He.glo_ok X G (c.fact 12 (f := .glo "table_from") rfl)
  obtain ⟨fd_rows_of, F_rows_of⟩ := c.def_ 13 (d := d_rows_of) rfl
  have g_rows_of := He.glo_ok X G (c.fact 13 (f := .glo "rows_of") rfl)
  obtain ⟨fd_row_to, F_row_to⟩ := c.def_ 14 (d := d_row_to) rfl
  have g_row_to := He.glo_ok X G (c.fact 14 (f := .glo "row_to") rfl)
  obtain ⟨fd_parted, F_parted⟩ := c.def_ 15 (d := d_parted) rfl
  have g_parted := He.glo_ok X G (c.fact 15 (f := .glo "parted") rfl)
  obtain ⟨fd_same_for_all, F_same_for_all⟩ := c.def_ 16 (d := d_same_for_all) rfl
  have g_same_for_all := He.glo_ok X G (c.fact 16 (f := .glo "same_for_all") rfl)
  obtain ⟨fd_alike, F_alike⟩ := c.def_ 17 (d := d_alike) rfl
  have g_alike := He.glo_ok X G (c.fact 17 (f := .glo "alike") rfl)
  obtain ⟨fd_parting_signal, F_parting_signal⟩ := c.def_ 18 (d := d_parting_signal) rfl
  have g_parting_signal := He.glo_ok X G (c.fact 18 (f := .glo "parting_signal") rfl)
  obtain ⟨fd_bound, F_bound⟩ := c.def_ 19 (d := d_bound) rfl
  have g_bound := He.glo_ok X G (c.fact 19 (f := .glo "bound") rfl)
  obtain ⟨fd__law_deck, F__law_deck⟩ := c.def_ 20 (d := d__law_deck) rfl
  have g__law_deck := He.glo_ok X G (c.fact 20 (f := .glo "_law_deck") rfl)
  obtain ⟨fd__law_pick, F__law_pick⟩ := c.def_ 21 (d := d__law_pick) rfl
  have g__law_pick := He.glo_ok X G (c.fact 21 (f := .glo "_law_pick") rfl)
  obtain ⟨fd__law_bool, F__law_bool⟩ := c.def_ 22 (d := d__law_bool) rfl
  have g__law_bool := He.glo_ok X G (c.fact 22 (f := .glo "_law_bool") rfl)
  obtain ⟨fd__law_one, F__law_one⟩ := c.def_ 23 (d := d__law_one) rfl
  have g__law_one := He.glo_ok X G (c.fact 23 (f := .glo "_law_one") rfl)
  obtain ⟨fd__law_first, F__law_first⟩ := c.def_ 24 (d := d__law_first) rfl
  have g__law_first := He.glo_ok X G (c.fact 24 (f := .glo "_law_first") rfl)
  obtain ⟨fd__law_tick, F__law_tick⟩ := c.def_ 25 (d := d__law_tick) rfl
  have g__law_tick := He.glo_ok X G (c.fact 25 (f := .glo "_law_tick") rfl)
  obtain ⟨fd__law_ran, F__law_ran⟩ := c.def_ 26 (d := d__law_ran) rfl
  have g__law_ran := He.glo_ok X G (c.fact 26 (f := .glo "_law_ran") rfl)
  obtain ⟨fd__law_outs, F__law_outs⟩ := c.def_ 27 (d := d__law_outs) rfl
  have g__law_outs := He.glo_ok X G (c.fact 27 (f := .glo "_law_outs") rfl)
  obtain ⟨fd__law_stage, F__law_stage⟩ := c.def_ 28 (d := d__law_stage) rfl
  have g__law_stage := He.glo_ok X G (c.fact 28 (f := .glo "_law_stage") rfl)
  obtain ⟨fd__law_chain, F__law_chain⟩ := c.def_ 29 (d := d__law_chain) rfl
  have g__law_chain := He.glo_ok X G (c.fact 29 (f := .glo "_law_chain") rfl)
  obtain ⟨fd__law_table, F__law_table⟩ := c.def_ 30 (d := d__law_table) rfl
  have g__law_table := He.glo_ok X G (c.fact 30 (f := .glo "_law_table") rfl)
  obtain ⟨fd__law_bent, F__law_bent⟩ := c.def_ 31 (d := d__law_bent) rfl
  have g__law_bent := He.glo_ok X G (c.fact 31 (f := .glo "_law_bent") rfl)
  obtain ⟨fd__law_all_levels, F__law_all_levels⟩ := c.def_ 32 (d := d__law_all_levels) rfl
  have g__law_all_levels := He.glo_ok X G (c.fact 32 (f := .glo "_law_all_levels") rfl)
  obtain ⟨fd__law_first_apart, F__law_first_apart⟩ := c.def_ 33 (d := d__law_first_apart) rfl
  have g__law_first_apart := He.glo_ok X G (c.fact 33 (f := .glo "_law_first_apart") rfl)
  obtain ⟨fd_law, F_law⟩ := c.def_ 34 (d := d_law) rfl
  have g_law := He.glo_ok X G (c.fact 34 (f := .glo "law") rfl)
  have e := hfa.symm.trans g_law
  cases e
  have bl := FunD.bindsA (ps := ["_law_script"]) F_law fun _ _ _ _ _ _ us hl => match us, hl with | [_], _ => rfl
  refine ⟨fd_law, fun s v => bl s [v] rfl, fun base _ _ => ?_⟩
  have bi_is_from : Binds K fd_is_from ["value", "low", "high"] [] := FunD.bindsN F_is_from fun _ _ _ _ _ _ us hl => match us, hl with | [_, _, _], _ => rfl
  have O_is_from : FnOk P w K mg base (L2.CX P w) 1 _ fd_is_from ["value", "low", "high"] (SpOf mg (w, K) 3 sp_is_from) := fn_ok (st := s_is_from) F_is_from sc_is_from rfl (fun cdv A outer s H E B g0 hr => b_is_from nb hr) vc_is_from
  have V_is_from : FnV P w K mg base "is_from" 3 1 sp_is_from := FnV.of mo_is_from O_is_from g_is_from F_is_from.kp bi_is_from
  have bi_is_stage_of : Binds K fd_is_stage_of ["top", "value"] [] := FunD.bindsN F_is_stage_of fun _ _ _ _ _ _ us hl => match us, hl with | [_, _], _ => rfl
  have O_is_stage_of : FnOk P w K mg base (L2.CX P w) 2 _ fd_is_stage_of ["top", "value"] (SpOf mg (w, K) 2 sp_is_stage_of) := fn_ok (st := s_is_stage_of) F_is_stage_of sc_is_stage_of rfl (fun cdv A outer s H E B g0 hr => b_is_stage_of nb c_MOST_TOP c_MOST_WAIT V_is_from (by first | decide | omega) hr) vc_is_stage_of
  have V_is_stage_of : FnV P w K mg base "is_stage_of" 2 2 sp_is_stage_of := FnV.of mo_is_stage_of O_is_stage_of g_is_stage_of F_is_stage_of.kp bi_is_stage_of
  have bi_keeping : Binds K fd_keeping ["stages"] [] := FunD.bindsN F_keeping fun _ _ _ _ _ _ us hl => match us, hl with | [_], _ => rfl
  have O_keeping : FnOk P w K mg base (L2.CX P w) 1 _ fd_keeping ["stages"] (SpOf mg (w, K) 1 sp_keeping) := fn_ok (st := s_keeping) F_keeping sc_keeping rfl (fun cdv A outer s H E B g0 hr => b_keeping nb hr) vc_keeping
  have V_keeping : FnV P w K mg base "keeping" 1 1 sp_keeping := FnV.of mo_keeping O_keeping g_keeping F_keeping.kp bi_keeping
  have bi_is_chain_of : Binds K fd_is_chain_of ["value"] [] := FunD.bindsN F_is_chain_of fun _ _ _ _ _ _ us hl => match us, hl with | [_], _ => rfl
  have O_is_chain_of : FnOk P w K mg base (L2.CX P w) 3 _ fd_is_chain_of ["value"] (SpOf mg (w, K) 1 sp_is_chain_of) := fn_ok (st := s_is_chain_of) F_is_chain_of sc_is_chain_of rfl (fun cdv A outer s H E B g0 hr => b_is_chain_of nb c_MOST_KEEPING c_MOST_STAGES c_MOST_TOP V_is_stage_of (by first | decide | omega) V_keeping (by first | decide | omega) V_is_from (by first | decide | omega) hr) vc_is_chain_of
  have V_is_chain_of : FnV P w K mg base "is_chain_of" 1 3 sp_is_chain_of := FnV.of mo_is_chain_of O_is_chain_of g_is_chain_of F_is_chain_of.kp bi_is_chain_of
  have bi_need_chain : Binds K fd_need_chain ["value"] [] := FunD.bindsN F_need_chain fun _ _ _ _ _ _ us hl => match us, hl with | [_], _ => rfl
  have O_need_chain : FnOk P w K mg base (L2.CX P w) 4 _ fd_need_chain ["value"] (SpOf mg (w, K) 1 sp_need_chain) := fn_ok (st := s_need_chain) F_need_chain sc_need_chain rfl (fun cdv A outer s H E B g0 hr => b_need_chain nb V_is_chain_of (by first | decide | omega) hr) vc_need_chain
  have V_need_chain : FnV P w K mg base "need_chain" 1 4 sp_need_chain := FnV.of mo_need_chain O_need_chain g_need_chain F_need_chain.kp bi_need_chain
  have bi_need_pair : Binds K fd_need_pair ["one", "other"] [] := FunD.bindsN F_need_pair fun _ _ _ _ _ _ us hl => match us, hl with | [_, _], _ => rfl
  have O_need_pair : FnOk P w K mg base (L2.CX P w) 5 _ fd_need_pair ["one", "other"] (SpOf mg (w, K) 2 sp_need_pair) := fn_ok (st := s_need_pair) F_need_pair sc_need_pair rfl (fun cdv A outer s H E B g0 hr => b_need_pair nb V_need_chain (by first | decide | omega) hr) vc_need_pair
  have V_need_pair : FnV P w K mg base "need_pair" 2 5 sp_need_pair := FnV.of mo_need_pair O_need_pair g_need_pair F_need_pair.kp bi_need_pair
  have bi_between : Binds K fd_between ["level", "low", "high"] [] := FunD.bindsN F_between fun _ _ _ _ _ _ us hl => match us, hl with | [_, _, _], _ => rfl
  have O_between : FnOk P w K mg base (L2.CX P w) 1 _ fd_between ["level", "low", "high"] (SpOf mg (w, K) 3 sp_between) := fn_ok (st := s_between) F_between sc_between rfl (fun cdv A outer s H E B g0 hr => b_between nb hr) vc_between
  have V_between : FnV P w K mg base "between" 3 1 sp_between := FnV.of mo_between O_between g_between F_between.kp bi_between
  have bi_first_of : Binds K fd_first_of ["stage", "level"] [] := FunD.bindsN F_first_of fun _ _ _ _ _ _ us hl => match us, hl with | [_, _], _ => rfl
  have O_first_of : FnOk P w K mg base (L2.CX P w) 2 _ fd_first_of ["stage", "level"] (SpOf mg (w, K) 2 sp_first_of) := fn_ok (st := s_first_of) F_first_of sc_first_of rfl (fun cdv A outer s H E B g0 hr => b_first_of nb V_between (by first | decide | omega) hr) vc_first_of
  have V_first_of : FnV P w K mg base "first_of" 2 2 sp_first_of := FnV.of mo_first_of O_first_of g_first_of F_first_of.kp bi_first_of
  have bi_first_state : Binds K fd_first_state ["chain"] [] := FunD.bindsN F_first_state fun _ _ _ _ _ _ us hl => match us, hl with | [_], _ => rfl
  have O_first_state : FnOk P w K mg base (L2.CX P w) 3 _ fd_first_state ["chain"] (SpOf mg (w, K) 1 sp_first_state) := fn_ok (st := s_first_state) F_first_state sc_first_state rfl (fun cdv A outer s H E B g0 hr => b_first_state nb V_first_of (by first | decide | omega) hr) vc_first_state
  have V_first_state : FnV P w K mg base "first_state" 1 3 sp_first_state := FnV.of mo_first_state O_first_state g_first_state F_first_state.kp bi_first_state
  have bi_moved : Binds K fd_moved ["stage", "memory", "level"] [] := FunD.bindsN F_moved fun _ _ _ _ _ _ us hl => match us, hl with | [_, _, _], _ => rfl
  have O_moved : FnOk P w K mg base (L2.CX P w) 2 _ fd_moved ["stage", "memory", "level"] (SpOf mg (w, K) 3 sp_moved) := fn_ok (st := s_moved) F_moved sc_moved rfl (fun cdv A outer s H E B g0 hr => b_moved nb V_between (by first | decide | omega) hr) vc_moved
  have V_moved : FnV P w K mg base "moved" 3 2 sp_moved := FnV.of mo_moved O_moved g_moved F_moved.kp bi_moved
  have bi_step : Binds K fd_step ["stages", "here", "level"] [] := FunD.bindsN F_step fun _ _ _ _ _ _ us hl => match us, hl with | [_, _, _], _ => rfl
  have O_step : FnOk P w K mg base (L2.CX P w) 3 _ fd_step ["stages", "here", "level"] (SpOf mg (w, K) 3 sp_step) := fn_ok (st := s_step) F_step sc_step rfl (fun cdv A outer s H E B g0 hr => b_step nb V_moved (by first | decide | omega) hr) vc_step
  have V_step : FnV P w K mg base "step" 3 3 sp_step := FnV.of mo_step O_step g_step F_step.kp bi_step
  have bi_with_place : Binds K fd_with_place ["places", "here"] [] := FunD.bindsN F_with_place fun _ _ _ _ _ _ us hl => match us, hl with | [_, _], _ => rfl
  have O_with_place : FnOk P w K mg base (L2.CX P w) 1 _ fd_with_place ["places", "here"] (SpOf mg (w, K) 2 sp_with_place) := fn_ok (st := s_with_place) F_with_place sc_with_place rfl (fun cdv A outer s H E B g0 hr => b_with_place nb hr) vc_with_place
  have V_with_place : FnV P w K mg base "with_place" 2 1 sp_with_place := FnV.of mo_with_place O_with_place g_with_place F_with_place.kp bi_with_place
  have bi_table_from : Binds K fd_table_from ["chain", "firsts"] [] := FunD.bindsN F_table_from fun _ _ _ _ _ _ us hl => match us, hl with | [_, _], _ => rfl
  have O_table_from : FnOk P w K mg base (L2.CX P w) 4 _ fd_table_from ["chain", "firsts"] (SpOf mg (w, K) 2 sp_table_from) := fn_ok (st := s_table_from) F_table_from sc_table_from rfl (fun cdv A outer s H E B g0 hr => b_table_from nb V_with_place (by first | decide | omega) V_step (by first | decide | omega) hr) vc_table_from
  have V_table_from : FnV P w K mg base "table_from" 2 4 sp_table_from := FnV.of mo_table_from O_table_from g_table_from F_table_from.kp bi_table_from
  have bi_rows_of : Binds K fd_rows_of ["chain"] [] := FunD.bindsN F_rows_of fun _ _ _ _ _ _ us hl => match us, hl with | [_], _ => rfl
  have O_rows_of : FnOk P w K mg base (L2.CX P w) 5 _ fd_rows_of ["chain"] (SpOf mg (w, K) 1 sp_rows_of) := fn_ok (st := s_rows_of) F_rows_of sc_rows_of rfl (fun cdv A outer s H E B g0 hr => b_rows_of nb V_table_from (by first | decide | omega) V_first_state (by first | decide | omega) hr) vc_rows_of
  have V_rows_of : FnV P w K mg base "rows_of" 1 5 sp_rows_of := FnV.of mo_rows_of O_rows_of g_rows_of F_rows_of.kp bi_rows_of
  have bi_row_to : Binds K fd_row_to ["found", "pair"] [] := FunD.bindsN F_row_to fun _ _ _ _ _ _ us hl => match us, hl with | [_, _], _ => rfl
  have O_row_to : FnOk P w K mg base (L2.CX P w) 1 _ fd_row_to ["found", "pair"] (SpOf mg (w, K) 2 sp_row_to) := fn_ok (st := s_row_to) F_row_to sc_row_to rfl (fun cdv A outer s H E B g0 hr => b_row_to nb hr) vc_row_to
  have V_row_to : FnV P w K mg base "row_to" 2 1 sp_row_to := FnV.of mo_row_to O_row_to g_row_to F_row_to.kp bi_row_to
  have bi_parted : Binds K fd_parted ["first", "other"] [] := FunD.bindsN F_parted fun _ _ _ _ _ _ us hl => match us, hl with | [_, _], _ => rfl
  have O_parted : FnOk P w K mg base (L2.CX P w) 2 _ fd_parted ["first", "other"] (SpOf mg (w, K) 2 sp_parted) := fn_ok (st := s_parted) F_parted sc_parted rfl (fun cdv A outer s H E B g0 hr => b_parted nb V_row_to (by first | decide | omega) hr) vc_parted
  have V_parted : FnV P w K mg base "parted" 2 2 sp_parted := FnV.of mo_parted O_parted g_parted F_parted.kp bi_parted
  have bi_same_for_all : Binds K fd_same_for_all ["one", "other"] [] := FunD.bindsN F_same_for_all fun _ _ _ _ _ _ us hl => match us, hl with | [_, _], _ => rfl
  have O_same_for_all : FnOk P w K mg base (L2.CX P w) 6 _ fd_same_for_all ["one", "other"] (SpOf mg (w, K) 2 sp_same_for_all) := fn_ok (st := s_same_for_all) F_same_for_all sc_same_for_all rfl (fun cdv A outer s H E B g0 hr => b_same_for_all nb V_parted (by first | decide | omega) V_rows_of (by first | decide | omega) hr) vc_same_for_all
  have V_same_for_all : FnV P w K mg base "same_for_all" 2 6 sp_same_for_all := FnV.of mo_same_for_all O_same_for_all g_same_for_all F_same_for_all.kp bi_same_for_all
  have bi_alike : Binds K fd_alike ["one", "other"] [] := FunD.bindsN F_alike fun _ _ _ _ _ _ us hl => match us, hl with | [_, _], _ => rfl
  have O_alike : FnOk P w K mg base (L2.CX P w) 7 _ fd_alike ["one", "other"] (SpOf mg (w, K) 2 sp_alike) := fn_ok (st := s_alike) F_alike sc_alike rfl (fun cdv A outer s H E B g0 hr => b_alike nb V_same_for_all (by first | decide | omega) V_need_pair (by first | decide | omega) hr) vc_alike
  have V_alike : FnV P w K mg base "alike" 2 7 sp_alike := FnV.of mo_alike O_alike g_alike F_alike.kp bi_alike
  have bi_parting_signal : Binds K fd_parting_signal ["one", "other"] [] := FunD.bindsN F_parting_signal fun _ _ _ _ _ _ us hl => match us, hl with | [_, _], _ => rfl
  have O_parting_signal : FnOk P w K mg base (L2.CX P w) 6 _ fd_parting_signal ["one", "other"] (SpOf mg (w, K) 2 sp_parting_signal) := fn_ok (st := s_parting_signal) F_parting_signal sc_parting_signal rfl (fun cdv A outer s H E B g0 hr => b_parting_signal nb V_parted (by first | decide | omega) V_rows_of (by first | decide | omega) V_need_pair (by first | decide | omega) hr) vc_parting_signal
  have V_parting_signal : FnV P w K mg base "parting_signal" 2 6 sp_parting_signal := FnV.of mo_parting_signal O_parting_signal g_parting_signal F_parting_signal.kp bi_parting_signal
  have bi_bound : Binds K fd_bound ["one", "other"] [] := FunD.bindsN F_bound fun _ _ _ _ _ _ us hl => match us, hl with | [_, _], _ => rfl
  have O_bound : FnOk P w K mg base (L2.CX P w) 6 _ fd_bound ["one", "other"] (SpOf mg (w, K) 2 sp_bound) := fn_ok (st := s_bound) F_bound sc_bound rfl (fun cdv A outer s H E B g0 hr => b_bound nb V_rows_of (by first | decide | omega) V_need_pair (by first | decide | omega) hr) vc_bound
  have V_bound : FnV P w K mg base "bound" 2 6 sp_bound := FnV.of mo_bound O_bound g_bound F_bound.kp bi_bound
  have bi__law_deck : Binds K fd__law_deck ["_law_cell", "_law_turn"] [] := FunD.bindsN F__law_deck fun _ _ _ _ _ _ us hl => match us, hl with | [_, _], _ => rfl
  have O__law_deck : FnOk P w K mg base (L2.CX P w) 1 _ fd__law_deck ["_law_cell", "_law_turn"] (SpOf mg (w, K) 2 sp__law_deck) := fn_ok (st := s__law_deck) F__law_deck sc__law_deck rfl (fun cdv A outer s H E B g0 hr => b__law_deck nb hr) vc__law_deck
  have V__law_deck : FnV P w K mg base "_law_deck" 2 1 sp__law_deck := FnV.of mo__law_deck O__law_deck g__law_deck F__law_deck.kp bi__law_deck
  have bi__law_pick : Binds K fd__law_pick ["_law_deck_here", "_law_limit"] [] := FunD.bindsN F__law_pick fun _ _ _ _ _ _ us hl => match us, hl with | [_, _], _ => rfl
  have O__law_pick : FnOk P w K mg base (L2.CX P w) 1 _ fd__law_pick ["_law_deck_here", "_law_limit"] (SpOf mg (w, K) 2 sp__law_pick) := fn_ok (st := s__law_pick) F__law_pick sc__law_pick rfl (fun cdv A outer s H E B g0 hr => b__law_pick nb hr) vc__law_pick
  have V__law_pick : FnV P w K mg base "_law_pick" 2 1 sp__law_pick := FnV.of mo__law_pick O__law_pick g__law_pick F__law_pick.kp bi__law_pick
  have bi__law_bool : Binds K fd__law_bool ["_law_found", "_law_due"] [] := FunD.bindsN F__law_bool fun _ _ _ _ _ _ us hl => match us, hl with | [_, _], _ => rfl
  have O__law_bool : FnOk P w K mg base (L2.CX P w) 1 _ fd__law_bool ["_law_found", "_law_due"] (SpOf mg (w, K) 2 sp__law_bool) := fn_ok (st := s__law_bool) F__law_bool sc__law_bool rfl (fun cdv A outer s H E B g0 hr => b__law_bool nb hr) vc__law_bool
  have V__law_bool : FnV P w K mg base "_law_bool" 2 1 sp__law_bool := FnV.of mo__law_bool O__law_bool g__law_bool F__law_bool.kp bi__law_bool
  have bi__law_one : Binds K fd__law_one ["_law_deck_here", "_law_some"] [] := FunD.bindsN F__law_one fun _ _ _ _ _ _ us hl => match us, hl with | [_, _], _ => rfl
  have O__law_one : FnOk P w K mg base (L2.CX P w) 2 _ fd__law_one ["_law_deck_here", "_law_some"] (SpOf mg (w, K) 2 sp__law_one) := fn_ok (st := s__law_one) F__law_one sc__law_one rfl (fun cdv A outer s H E B g0 hr => b__law_one nb V__law_pick (by first | decide | omega) hr) vc__law_one
  have V__law_one : FnV P w K mg base "_law_one" 2 2 sp__law_one := FnV.of mo__law_one O__law_one g__law_one F__law_one.kp bi__law_one
  have bi__law_first : Binds K fd__law_first ["_law_c"] [] := FunD.bindsN F__law_first fun _ _ _ _ _ _ us hl => match us, hl with | [_], _ => rfl
  have O__law_first : FnOk P w K mg base (L2.CX P w) 1 _ fd__law_first ["_law_c"] (SpOf mg (w, K) 1 sp__law_first) := fn_ok (st := s__law_first) F__law_first sc__law_first rfl (fun cdv A outer s H E B g0 hr => b__law_first nb hr) vc__law_first
  have V__law_first : FnV P w K mg base "_law_first" 1 1 sp__law_first := FnV.of mo__law_first O__law_first g__law_first F__law_first.kp bi__law_first
  have bi__law_tick : Binds K fd__law_tick ["_law_c", "_law_kept", "_law_at"] [] := FunD.bindsN F__law_tick fun _ _ _ _ _ _ us hl => match us, hl with | [_, _, _], _ => rfl
  have O__law_tick : FnOk P w K mg base (L2.CX P w) 1 _ fd__law_tick ["_law_c", "_law_kept", "_law_at"] (SpOf mg (w, K) 3 sp__law_tick) := fn_ok (st := s__law_tick) F__law_tick sc__law_tick rfl (fun cdv A outer s H E B g0 hr => b__law_tick nb hr) vc__law_tick
  have V__law_tick : FnV P w K mg base "_law_tick" 3 1 sp__law_tick := FnV.of mo__law_tick O__law_tick g__law_tick F__law_tick.kp bi__law_tick
  have bi__law_ran : Binds K fd__law_ran ["_law_c", "_law_kept", "_law_levels_here"] [] := FunD.bindsN F__law_ran fun _ _ _ _ _ _ us hl => match us, hl with | [_, _, _], _ => rfl
  have O__law_ran : FnOk P w K mg base (L2.CX P w) 2 _ fd__law_ran ["_law_c", "_law_kept", "_law_levels_here"] (SpOf mg (w, K) 3 sp__law_ran) := fn_ok (st := s__law_ran) F__law_ran sc__law_ran rfl (fun cdv A outer s H E B g0 hr => b__law_ran nb V__law_tick (by first | decide | omega) hr) vc__law_ran
  have V__law_ran : FnV P w K mg base "_law_ran" 3 2 sp__law_ran := FnV.of mo__law_ran O__law_ran g__law_ran F__law_ran.kp bi__law_ran
  have bi__law_outs : Binds K fd__law_outs ["_law_c", "_law_levels_here"] [] := FunD.bindsN F__law_outs fun _ _ _ _ _ _ us hl => match us, hl with | [_, _], _ => rfl
  have O__law_outs : FnOk P w K mg base (L2.CX P w) 3 _ fd__law_outs ["_law_c", "_law_levels_here"] (SpOf mg (w, K) 2 sp__law_outs) := fn_ok (st := s__law_outs) F__law_outs sc__law_outs rfl (fun cdv A outer s H E B g0 hr => b__law_outs nb V__law_ran (by first | decide | omega) V__law_first (by first | decide | omega) hr) vc__law_outs
  have V__law_outs : FnV P w K mg base "_law_outs" 2 3 sp__law_outs := FnV.of mo__law_outs O__law_outs g__law_outs F__law_outs.kp bi__law_outs
  have bi__law_stage : Binds K fd__law_stage ["_law_deck_here", "_law_top", "_law_bare"] [] := FunD.bindsN F__law_stage fun _ _ _ _ _ _ us hl => match us, hl with | [_, _, _], _ => rfl
  have O__law_stage : FnOk P w K mg base (L2.CX P w) 2 _ fd__law_stage ["_law_deck_here", "_law_top", "_law_bare"] (SpOf mg (w, K) 3 sp__law_stage) := fn_ok (st := s__law_stage) F__law_stage sc__law_stage rfl (fun cdv A outer s H E B g0 hr => b__law_stage nb V__law_pick (by first | decide | omega) hr) vc__law_stage
  have V__law_stage : FnV P w K mg base "_law_stage" 3 2 sp__law_stage := FnV.of mo__law_stage O__law_stage g__law_stage F__law_stage.kp bi__law_stage
  have bi__law_chain : Binds K fd__law_chain ["_law_deck_here", "_law_most", "_law_many"] [] := FunD.bindsN F__law_chain fun _ _ _ _ _ _ us hl => match us, hl with | [_, _, _], _ => rfl
  have O__law_chain : FnOk P w K mg base (L2.CX P w) 3 _ fd__law_chain ["_law_deck_here", "_law_most", "_law_many"] (SpOf mg (w, K) 3 sp__law_chain) := fn_ok (st := s__law_chain) F__law_chain sc__law_chain rfl (fun cdv A outer s H E B g0 hr => b__law_chain nb V__law_pick (by first | decide | omega) V__law_stage (by first | decide | omega) hr) vc__law_chain
  have V__law_chain : FnV P w K mg base "_law_chain" 3 3 sp__law_chain := FnV.of mo__law_chain O__law_chain g__law_chain F__law_chain.kp bi__law_chain
  have bi__law_table : Binds K fd__law_table ["_law_c", "_law_firsts"] [] := FunD.bindsN F__law_table fun _ _ _ _ _ _ us hl => match us, hl with | [_, _], _ => rfl
  have O__law_table : FnOk P w K mg base (L2.CX P w) 2 _ fd__law_table ["_law_c", "_law_firsts"] (SpOf mg (w, K) 2 sp__law_table) := fn_ok (st := s__law_table) F__law_table sc__law_table rfl (fun cdv A outer s H E B g0 hr => b__law_table nb V__law_tick (by first | decide | omega) hr) vc__law_table
  have V__law_table : FnV P w K mg base "_law_table" 2 2 sp__law_table := FnV.of mo__law_table O__law_table g__law_table F__law_table.kp bi__law_table
  have bi__law_bent : Binds K fd__law_bent ["_law_deck_here", "_law_c"] [] := FunD.bindsN F__law_bent fun _ _ _ _ _ _ us hl => match us, hl with | [_, _], _ => rfl
  have O__law_bent : FnOk P w K mg base (L2.CX P w) 3 _ fd__law_bent ["_law_deck_here", "_law_c"] (SpOf mg (w, K) 2 sp__law_bent) := fn_ok (st := s__law_bent) F__law_bent sc__law_bent rfl (fun cdv A outer s H E B g0 hr => b__law_bent nb V__law_pick (by first | decide | omega) V__law_one (by first | decide | omega) hr) vc__law_bent
  have V__law_bent : FnV P w K mg base "_law_bent" 2 3 sp__law_bent := FnV.of mo__law_bent O__law_bent g__law_bent F__law_bent.kp bi__law_bent
  have bi__law_all_levels : Binds K fd__law_all_levels ["_law_top", "_law_many"] [] := FunD.bindsN F__law_all_levels fun _ _ _ _ _ _ us hl => match us, hl with | [_, _], _ => rfl
  have O__law_all_levels : FnOk P w K mg base (L2.CX P w) 1 _ fd__law_all_levels ["_law_top", "_law_many"] (SpOf mg (w, K) 2 sp__law_all_levels) := fn_ok (st := s__law_all_levels) F__law_all_levels sc__law_all_levels rfl (fun cdv A outer s H E B g0 hr => b__law_all_levels nb hr) vc__law_all_levels
  have V__law_all_levels : FnV P w K mg base "_law_all_levels" 2 1 sp__law_all_levels := FnV.of mo__law_all_levels O__law_all_levels g__law_all_levels F__law_all_levels.kp bi__law_all_levels
  have bi__law_first_apart : Binds K fd__law_first_apart ["_law_c", "_law_two", "_law_many"] [] := FunD.bindsN F__law_first_apart fun _ _ _ _ _ _ us hl => match us, hl with | [_, _, _], _ => rfl
  have O__law_first_apart : FnOk P w K mg base (L2.CX P w) 4 _ fd__law_first_apart ["_law_c", "_law_two", "_law_many"] (SpOf mg (w, K) 3 sp__law_first_apart) := fn_ok (st := s__law_first_apart) F__law_first_apart sc__law_first_apart rfl (fun cdv A outer s H E B g0 hr => b__law_first_apart nb V__law_all_levels (by first | decide | omega) V__law_outs (by first | decide | omega) hr) vc__law_first_apart
  have V__law_first_apart : FnV P w K mg base "_law_first_apart" 3 4 sp__law_first_apart := FnV.of mo__law_first_apart O__law_first_apart g__law_first_apart F__law_first_apart.kp bi__law_first_apart
  have bi_law : Binds K fd_law ["_law_script"] [] := FunD.bindsN F_law fun _ _ _ _ _ _ us hl => match us, hl with | [_], _ => rfl
  have O_law : FnOk P w K mg base (L2.CX P w) 8 _ fd_law ["_law_script"] (SpOf mg (w, K) 1 sp_law0) := fn_ok (st := s_law) F_law sc_law rfl (fun cdv A outer s H E B g0 hr => b_law nb V_parting_signal (by first | decide | omega) V_bound (by first | decide | omega) V_alike (by first | decide | omega) V__law_bool (by first | decide | omega) V__law_first_apart (by first | decide | omega) V__law_table (by first | decide | omega) V__law_first (by first | decide | omega) V__law_bent (by first | decide | omega) V__law_chain (by first | decide | omega) V__law_deck (by first | decide | omega) hr) vc_law_k04
  refine O_law.imp fun vs H Q E ⟨a, ns, ev, hS, hl, hO, q⟩ => ?_
  subst ev
  refine ⟨rfl, ⟨fun b => H b ≠ none, []⟩, [], [.kst (ns.map D.int)], fun t _ => t = .val (.bl true), ⟨rfl, List.nodup_nil, fun k a m h => by simp at h, fun a h => by simp at h, fun a h => ?_⟩, .cons (.kst ?_ (rep_ints ns)) .nil, ⟨rfl, ns, rfl, hl, fun _ => rfl⟩, fun v H' g' t S' st so hf rf ht => ?_⟩
  · cases e : H a with
    | none => exact absurd e h
    | some o => exact ⟨o, rfl⟩
  · refine hS.imp (fun h => ⟨?_, h⟩) id
    rcases h with h | ⟨o, h⟩
    · show H a ≠ none
      rw [h]; exact fun q => nomatch q
    · show H a ≠ none
      rw [h]; exact fun q => nomatch q
  · subst ht
    cases rf
    exact q _
end K04
end VC
open PySem PySem.W PySem.Calls PyProof.Rows
theorem PySem.Challenge.cw_slewchains_k04_whole_all_signals_up_to_t_holds : PySem.Challenge.rw_slewchains_k04_whole_all_signals_up_to_t.Holds := by
  w_on; o_law
  refine HandSHeadRun.head_any (r := OpenLaw.row PySem.Challenge.rw_slewchains_k04_whole_all_signals_up_to_t) (q := view (OpenLaw.row PySem.Challenge.rw_slewchains_k04_whole_all_signals_up_to_t).prog [48]) (H := VC.K04.hk) (ob := VC.K04.ob) (M := 6000) (loose := VC.K04.loose) (d := HandSHeadRun.topDef (OpenLaw.row PySem.Challenge.rw_slewchains_k04_whole_all_signals_up_to_t).prog 48) (kwd := []) VC.K04.ob_eq
    (by kernel_rfl) (fun s => by kernel_rfl) VC.K04.run (by kernel_rfl) (by kernel_rfl) (by kernel_rfl) (by rfl) (by first | assumption | decide +kernel) (by decide +kernel) ⟨rfl, rfl, rfl, rfl, rfl, by decide +kernel⟩ ?hw ?hc
  case hw => w_witness2
  case hc =>
    refine VC.walk_k (l := PySem.Challenge.rw_slewchains_k04_whole_all_signals_up_to_t) (k := 8) (x := "_law_script") rfl (by kernel_rfl) ⟨rfl, by decide, by decide⟩ (fun w mg fa h Y G hmg0 => ?_)
    · obtain ⟨K, KX, c⟩ := Y
      have hmg : mg ("law" : PySem.Str) = some (.ref fa) := by
        have e : (HandSHeadRun.topDef (OpenLaw.row PySem.Challenge.rw_slewchains_k04_whole_all_signals_up_to_t).prog 48).name = ("law" : PySem.Str) := by kernel_rfl
        rw [← e]
        exact hmg0
      obtain ⟨fd, hb, hF⟩ := VC.K04.facts (P := (PySem.Challenge.rw_slewchains_k04_whole_all_signals_up_to_t).prog) (w := w) KX G hmg c
      exact ⟨K, fd, VC.K04.spLaw K, KX, hb, fun H a ns hl hO hS => ⟨a, ns, rfl, hS, hl, hO, fun _ => rfl⟩, hF⟩
