import PyProof.Rows.All
import Wide.All
import OpenK.AllK
import Wide.FinOn
import HandS.ForMost
import HandS.Flow
import HandS.Exc
import HandS.WordsExc
import HandS.Rev
import HandS.Zip
import HandS.TupAny
import HandS.Wide
import HandS.IsInst
import HandS.RaiseMore
import KE.GoesMore
import HandS.EndBits
import PySem.Challenge.RW_migraproof_k30_comparison_from_some_n_on
set_option Elab.async false
set_option linter.all false
set_option maxRecDepth 100000
namespace DL
open PySem PySem.Spec PyProof.Rows L2

/-! ### data, the store, answers -/
inductive D where
  | non | bl (b : Bool) | int (i : Int) | str (x : Str) | tup (l : List D) | ref (n : Nat)
inductive O where
  | lst (l : List D) | rol (l : List D)
abbrev Sto := List O
abbrev Ev := List (Option D)
structure Exn where
  cls : Str
  args : Option (List (Str × D))
inductive R (α : Type) where
  | ok (a : α) | ex (e : Exn)
abbrev Ans (α : Type) := Option (R α × Sto)
def bindR {α β : Type} (x : Ans α) (k : α → Sto → Ans β) : Ans β := match x with
  | none => none
  | some (.ex e, S) => some (.ex e, S)
  | some (.ok a, S) => k a S
def okO {α : Type} (x : Option (α × Sto)) : Ans α := match x with
  | none => none
  | some (a, S) => some (.ok a, S)
def O.mut : O → Bool
  | .lst _ => true
  | .rol _ => false

/-! ### how data lie in the abstract heap -/
section
variable (K : PySem.W.Frag)
mutual
def RV (io : List Addr) (H : Hp) : D → V → Prop
  | .non, v => v = .non
  | .bl b, v => v = .bl b
  | .int i, v => v = .int i
  | .str x, v => v = .str x
  | .tup ds, v => ∃ a vs, v = .ref a ∧ SqT K H a vs ∧ RVs io H ds vs
  | .ref n, v => ∃ a, io[n]? = some a ∧ v = .ref a
def RVs (io : List Addr) (H : Hp) : List D → List V → Prop
  | [], vs => vs = []
  | d :: ds, vs => ∃ v r, vs = v :: r ∧ RV io H d v ∧ RVs io H ds r
end
structure Ext (io : List Addr) (H : Hp) (io' : List Addr) (H' : Hp) : Prop where
  pre : ∃ t, io' = io ++ t
  tup : ∀ a vs, SqT K H a vs → SqT K H' a vs
/-- a list that nobody writes -/
def ROL (H : Hp) (a : Addr) (vs : List V) : Prop := (∃ o, H a = some (.frz o (.lst vs))) ∨
    ∃ (o : Obj) (its : Array Value) (n : Nat), K.lookup a = some o ∧ o.cls = .type "list" ∧ o.dict = none ∧ o.data = .seq its n ∧ its.size ≤ sizeLine ∧ Vals vs its.toList
def RO (io : List Addr) (H : Hp) : O → Addr → Prop
  | .lst ds, a => ∃ vs, H a = some (.lst vs) ∧ RVs K io H ds vs
  | .rol ds, a => ∃ vs, ROL K H a vs ∧ RVs K io H ds vs
structure RS (io : List Addr) (S : Sto) (H : Hp) : Prop where
  len : io.length = S.length
  obj : ∀ (n : Nat) (o : O) (a : Addr), S[n]? = some o → io[n]? = some a → RO K io H o a
  inj : ∀ (m n : Nat) (a : Addr) (o u : O), io[m]? = some a → io[n]? = some a → S[m]? = some o → S[n]? = some u → o.mut = true → u.mut = true → m = n
structure RE (io : List Addr) (H : Hp) (env : Ev) (σ : L2.St) : Prop where
  len : env.length = σ.length
  get : ∀ (i : Nat) (d : D), env[i]? = some (some d) → ∃ v, σ[i]? = some (some v) ∧ RV K io H d v
end

section
variable {K : PySem.W.Frag} {io io' io2 : List Addr} {H H' H2 : Hp} {S S' : Sto}
theorem Ext.refl : Ext K io H io H := ⟨⟨[], by simp⟩, fun _ _ h => h⟩
theorem Ext.trans (a : Ext K io H io' H') (b : Ext K io' H' io2 H2) : Ext K io H io2 H2 := by
  obtain ⟨t, rfl⟩ := a.pre
  obtain ⟨u, rfl⟩ := b.pre
  exact ⟨⟨t ++ u, by simp⟩, fun x vs h => b.tup x vs (a.tup x vs h)⟩
theorem Ext.get (e : Ext K io H io' H') {n : Nat} {a : Addr} (h : io[n]? = some a) : io'[n]? = some a := by
  obtain ⟨t, rfl⟩ := e.pre
  rw [List.getElem?_append_left (List.getElem?_eq_some_iff.mp h).1]
  exact h
mutual
theorem RV.mono (e : Ext K io H io' H') : ∀ (d : D) (v : V), RV K io H d v → RV K io' H' d v
  | .non, _, h => by simpa [RV] using h
  | .bl _, _, h => by simpa [RV] using h
  | .int _, _, h => by simpa [RV] using h
  | .str _, _, h => by simpa [RV] using h
  | .tup ds, v, h => by
    unfold RV at h ⊢
    obtain ⟨a, vs, e1, e2, e3⟩ := h
    exact ⟨a, vs, e1, e.tup a vs e2, RVs.mono e ds vs e3⟩
  | .ref n, v, h => by
    unfold RV at h ⊢
    obtain ⟨a, e1, e2⟩ := h
    exact ⟨a, e.get e1, e2⟩
theorem RVs.mono (e : Ext K io H io' H') : ∀ (ds : List D) (vs : List V), RVs K io H ds vs → RVs K io' H' ds vs
  | [], _, h => by simpa [RVs] using h
  | d :: ds, vs, h => by
    unfold RVs at h ⊢
    obtain ⟨v, r, e1, e2, e3⟩ := h
    exact ⟨v, r, e1, RV.mono e d v e2, RVs.mono e ds r e3⟩
end
theorem RE.mono {env : Ev} {σ : L2.St} (h : RE K io H env σ) (e : Ext K io H io' H') : RE K io' H' env σ := ⟨h.len, fun i d q => by
  obtain ⟨v, e1, e2⟩ := h.get i d q
  exact ⟨v, e1, RV.mono e d v e2⟩⟩
theorem RE.set {env : Ev} {σ : L2.St} (h : RE K io H env σ) (i : Nat) {d : D} {v : V} (r : RV K io H d v) : RE K io H (env.set i (some d)) (σ.set i (some v)) := by
  refine ⟨by simp [h.len], fun j e q => ?_⟩
  by_cases hj : i = j
  · subst hj
    have hi : i < env.length := by
      have := (List.getElem?_eq_some_iff.mp q).1
      simpa using this
    rw [List.getElem?_set_self hi] at q
    cases q
    exact ⟨v, List.getElem?_set_self (by rw [← h.len]; exact hi), r⟩
  · rw [List.getElem?_set_ne hj] at q ⊢
    exact h.get j e q
theorem RVs.length : ∀ {ds : List D} {vs : List V}, RVs K io H ds vs → ds.length = vs.length
  | [], _, h => by
    unfold RVs at h
    subst h
    rfl
  | d :: ds, _, h => by
    unfold RVs at h
    obtain ⟨v, r, e, _, h⟩ := h
    subst e
    rw [List.length_cons, List.length_cons, RVs.length h]
theorem RVs.get : ∀ {ds : List D} {vs : List V} {i : Nat} {d : D}, RVs K io H ds vs → ds[i]? = some d → ∃ v, vs[i]? = some v ∧ RV K io H d v
  | [], _, _, _, _, q => by simp at q
  | d :: ds, _, 0, x, h, q => by
    unfold RVs at h
    obtain ⟨v, r, e, h1, h2⟩ := h
    subst e
    simp at q
    subst q
    exact ⟨v, rfl, h1⟩
  | d :: ds, _, i + 1, x, h, q => by
    unfold RVs at h
    obtain ⟨v, r, e, h1, h2⟩ := h
    subst e
    simp at q
    obtain ⟨w, e1, e2⟩ := RVs.get h2 q
    exact ⟨w, by simpa using e1, e2⟩
theorem RVs.append : ∀ {ds es : List D} {vs ws : List V}, RVs K io H ds vs → RVs K io H es ws → RVs K io H (ds ++ es) (vs ++ ws)
  | [], _, _, _, h, q => by
    unfold RVs at h
    subst h
    exact q
  | d :: ds, es, _, ws, h, q => by
    unfold RVs at h
    obtain ⟨v, r, e, h1, h2⟩ := h
    subst e
    show RVs K io H (d :: (ds ++ es)) (v :: (r ++ ws))
    unfold RVs
    exact ⟨v, _, rfl, h1, RVs.append h2 q⟩
theorem RVs.nil : RVs K io H [] [] := by
  unfold RVs
  rfl
theorem RVs.cons {d : D} {ds : List D} {v : V} {vs : List V} (a : RV K io H d v) (b : RVs K io H ds vs) : RVs K io H (d :: ds) (v :: vs) := by
  unfold RVs
  exact ⟨v, vs, rfl, a, b⟩
theorem RVs.one {d : D} {v : V} (a : RV K io H d v) : RVs K io H [d] [v] := RVs.cons a RVs.nil
theorem RVs.set {d : D} {v : V} (r : RV K io H d v) : ∀ {ds : List D} {vs : List V} (i : Nat), RVs K io H ds vs → RVs K io H (ds.set i d) (vs.set i v)
  | [], _, i, h => by
    unfold RVs at h
    subst h
    exact RVs.nil
  | e :: ds, _, 0, h => by
    unfold RVs at h
    obtain ⟨w, q, e, h1, h2⟩ := h
    subst e
    exact RVs.cons r h2
  | e :: ds, _, i + 1, h => by
    unfold RVs at h
    obtain ⟨w, q, e, h1, h2⟩ := h
    subst e
    exact RVs.cons h1 (RVs.set r i h2)
theorem RVs.take : ∀ {ds : List D} {vs : List V} (n : Nat), RVs K io H ds vs → RVs K io H (ds.take n) (vs.take n)
  | _, _, 0, _ => by simpa using RVs.nil
  | [], _, n + 1, h => by
    unfold RVs at h
    subst h
    simpa using RVs.nil
  | d :: ds, _, n + 1, h => by
    unfold RVs at h
    obtain ⟨w, q, e, h1, h2⟩ := h
    subst e
    exact RVs.cons h1 (RVs.take n h2)
theorem RVs.drop : ∀ {ds : List D} {vs : List V} (n : Nat), RVs K io H ds vs → RVs K io H (ds.drop n) (vs.drop n)
  | _, _, 0, h => by simpa using h
  | [], _, n + 1, h => by
    unfold RVs at h
    subst h
    simpa using RVs.nil
  | d :: ds, _, n + 1, h => by
    unfold RVs at h
    obtain ⟨w, q, e, h1, h2⟩ := h
    subst e
    exact RVs.drop n h2

/-! ### the heap changes -/
theorem SqT.fresh {p : Addr} {o : HO} (hp : H p = none) : ∀ a vs, SqT K H a vs → SqT K (upd H p o) a vs := fun a vs h => by
  rcases h with (h | ⟨u, h⟩) | h
  · exact .inl (.inl (by rw [upd_ne (ne_of_none h hp)]; exact h))
  · exact .inl (.inr ⟨u, by rw [upd_ne (ne_of_none h hp)]; exact h⟩)
  · exact .inr h
theorem SqT.write {p : Addr} {o : HO} {xs : List V} (hp : H p = some (.lst xs)) : ∀ a vs, SqT K H a vs → SqT K (upd H p o) a vs := fun a vs h => by
  rcases h with (h | ⟨u, h⟩) | h
  · exact .inl (.inl (by rw [upd_ne (ne_of h hp (by intro z; cases z))]; exact h))
  · exact .inl (.inr ⟨u, by rw [upd_ne (ne_of h hp (by intro z; cases z))]; exact h⟩)
  · exact .inr h
theorem ROL.fresh {p a : Addr} {o : HO} {vs : List V} (hp : H p = none) (h : ROL K H a vs) : ROL K (upd H p o) a vs := by
  rcases h with ⟨u, h⟩ | h
  · exact .inl ⟨u, by rw [upd_ne (ne_of_none h hp)]; exact h⟩
  · exact .inr h
theorem ROL.write {p a : Addr} {o : HO} {vs xs : List V} (hp : H p = some (.lst xs)) (h : ROL K H a vs) : ROL K (upd H p o) a vs := by
  rcases h with ⟨u, h⟩ | h
  · exact .inl ⟨u, by rw [upd_ne (ne_of h hp (by intro z; cases z))]; exact h⟩
  · exact .inr h
theorem ROL.sq {a : Addr} {vs : List V} (h : ROL K H a vs) : SqL K H a vs := by
  rcases h with ⟨u, h⟩ | h
  · exact .inl (.inr ⟨u, h⟩)
  · exact .inr h
theorem RO.fresh {t : List Addr} {p a : Addr} {o : HO} (hp : H p = none) : ∀ {u : O}, RO K io H u a → RO K (io ++ t) (upd H p o) u a
  | .lst ds, ⟨vs, h1, h2⟩ => ⟨vs, by rw [upd_ne (ne_of_none h1 hp)]; exact h1, RVs.mono ⟨⟨t, rfl⟩, SqT.fresh hp⟩ ds vs h2⟩
  | .rol ds, ⟨vs, h1, h2⟩ => ⟨vs, h1.fresh hp, RVs.mono ⟨⟨t, rfl⟩, SqT.fresh hp⟩ ds vs h2⟩
/-- a new tuple -/
theorem RS.tupNew (h : RS K io S H) {p : Addr} {vs : List V} (hp : H p = none) : RS K io S (upd H p (.tup vs)) := ⟨h.len, fun n o a e1 e2 => by
  have q := (h.obj n o a e1 e2).fresh (t := []) (o := .tup vs) hp
  rwa [List.append_nil] at q, h.inj⟩
theorem Ext.fresh {p : Addr} {o : HO} (hp : H p = none) : Ext K io H io (upd H p o) := ⟨⟨[], by simp⟩, SqT.fresh hp⟩
theorem RS.mutSome (h : RS K io S H) {n : Nat} {o : O} {a : Addr} (e1 : S[n]? = some o) (e2 : io[n]? = some a) (m : o.mut = true) : ∃ xs, H a = some (.lst xs) := by
  have q := h.obj n o a e1 e2
  cases o with
  | lst ds =>
    obtain ⟨vs, q, _⟩ := q
    exact ⟨vs, q⟩
  | rol ds => cases m
/-- a new list -/
theorem RS.lstNew (h : RS K io S H) {p : Addr} {ds : List D} {vs : List V} (hp : H p = none) (r : RVs K io H ds vs) : RS K (io ++ [p]) (S ++ [.lst ds]) (upd H p (.lst vs)) := by
  have hS : ∀ {n : Nat} {o : O}, (S ++ [O.lst ds])[n]? = some o → S[n]? = some o ∨ (n = S.length ∧ o = .lst ds) := fun {n o} e => by
    by_cases hn : n < S.length
    · rw [List.getElem?_append_left hn] at e
      exact .inl e
    · rw [List.getElem?_append_right (by omega)] at e
      have h0 : n - S.length = 0 := by
        have := (List.getElem?_eq_some_iff.mp e).1
        simp at this
        omega
      rw [h0] at e
      cases e
      exact .inr ⟨by omega, rfl⟩
  have hI : ∀ {n : Nat} {a : Addr}, (io ++ [p])[n]? = some a → io[n]? = some a ∨ (n = S.length ∧ a = p) := fun {n a} e => by
    by_cases hn : n < io.length
    · rw [List.getElem?_append_left hn] at e
      exact .inl e
    · rw [List.getElem?_append_right (by omega)] at e
      have h0 : n - io.length = 0 := by
        have := (List.getElem?_eq_some_iff.mp e).1
        simp at this
        omega
      rw [h0] at e
      cases e
      exact .inr ⟨by have := h.len; omega, rfl⟩
  have lt : ∀ {n : Nat} {o : O}, S[n]? = some o → n < S.length := fun e => (List.getElem?_eq_some_iff.mp e).1
  have ltI : ∀ {n : Nat} {a : Addr}, io[n]? = some a → n < S.length := fun e => by
    rw [← h.len]
    exact (List.getElem?_eq_some_iff.mp e).1
  refine ⟨by simp [h.len], fun n o a e1 e2 => ?_, fun m n a o u e1 e2 e3 e4 m1 m2 => ?_⟩
  · rcases hS e1 with e1 | ⟨rfl, rfl⟩
    · rcases hI e2 with e2 | ⟨rfl, rfl⟩
      · exact (h.obj n o a e1 e2).fresh hp
      · exact absurd (lt e1) (Nat.lt_irrefl _)
    · rcases hI e2 with e2 | ⟨_, rfl⟩
      · exact absurd (ltI e2) (Nat.lt_irrefl _)
      · exact ⟨vs, upd_same, RVs.mono ⟨⟨[a], rfl⟩, SqT.fresh hp⟩ ds vs r⟩
  · rcases hS e3 with f3 | ⟨q3, r3⟩
    · rcases hI e1 with f1 | ⟨q1, _⟩
      · rcases hS e4 with f4 | ⟨q4, r4⟩
        · rcases hI e2 with f2 | ⟨q2, _⟩
          · exact h.inj m n a o u f1 f2 f3 f4 m1 m2
          · exact absurd (q2 ▸ lt f4) (Nat.lt_irrefl _)
        · rcases hI e2 with f2 | ⟨_, r2⟩
          · exact absurd (q4 ▸ ltI f2) (Nat.lt_irrefl _)
          · obtain ⟨xs, q⟩ := h.mutSome f3 f1 m1
            rw [r2, hp] at q
            cases q
      · exact absurd (q1 ▸ lt f3) (Nat.lt_irrefl _)
    · rcases hI e1 with f1 | ⟨_, r1⟩
      · exact absurd (q3 ▸ ltI f1) (Nat.lt_irrefl _)
      · rcases hS e4 with f4 | ⟨q4, r4⟩
        · rcases hI e2 with f2 | ⟨q2, _⟩
          · obtain ⟨xs, q⟩ := h.mutSome f4 f2 m2
            rw [r1, hp] at q
            cases q
          · exact absurd (q2 ▸ lt f4) (Nat.lt_irrefl _)
        · rw [q3, q4]
theorem Ext.new {p : Addr} {o : HO} (hp : H p = none) : Ext K io H (io ++ [p]) (upd H p o) := ⟨⟨[p], rfl⟩, SqT.fresh hp⟩
theorem RS.lastNew (h : RS K io S H) {p : Addr} : (io ++ [p])[S.length]? = some p := by
  rw [← h.len]
  simp
/-- a list is written -/
theorem RS.write (h : RS K io S H) {n : Nat} {a : Addr} {ds es : List D} {vs : List V} (e1 : S[n]? = some (.lst es)) (e2 : io[n]? = some a) (r : RVs K io H ds vs) : RS K io (S.set n (.lst ds)) (upd H a (.lst vs)) ∧ Ext K io H io (upd H a (.lst vs)) := by
  obtain ⟨xs, hx⟩ := h.mutSome e1 e2 rfl
  have hn : n < S.length := (List.getElem?_eq_some_iff.mp e1).1
  have ext : Ext K io H io (upd H a (.lst vs)) := ⟨⟨[], by simp⟩, SqT.write hx⟩
  have old : ∀ {m : Nat} {o : O}, (S.set n (.lst ds))[m]? = some o → (m = n ∧ o = .lst ds) ∨ (m ≠ n ∧ S[m]? = some o) := fun {m o} e => by
    by_cases hm : n = m
    · subst hm
      rw [List.getElem?_set_self hn] at e
      cases e
      exact .inl ⟨rfl, rfl⟩
    · rw [List.getElem?_set_ne hm] at e
      exact .inr ⟨fun z => hm z.symm, e⟩
  refine ⟨⟨by simp [h.len], fun m o b q1 q2 => ?_, fun k m b o u q1 q2 q3 q4 m1 m2 => ?_⟩, ext⟩
  · rcases old q1 with ⟨rfl, rfl⟩ | ⟨ne, q1⟩
    · rw [e2] at q2
      cases q2
      exact ⟨vs, upd_same, RVs.mono ext ds vs r⟩
    · have q := h.obj m o b q1 q2
      cases o with
      | lst fs =>
        obtain ⟨ws, w1, w2⟩ := q
        have nb : b ≠ a := fun z => by
          subst z
          exact ne (h.inj m n b _ _ q2 e2 q1 e1 rfl rfl)
        exact ⟨ws, by rw [upd_ne nb]; exact w1, RVs.mono ext fs ws w2⟩
      | rol fs =>
        obtain ⟨ws, w1, w2⟩ := q
        exact ⟨ws, w1.write hx, RVs.mono ext fs ws w2⟩
  · have g : ∀ {m : Nat} {o : O}, (S.set n (.lst ds))[m]? = some o → o.mut = true → ∃ o', S[m]? = some o' ∧ o'.mut = true := fun {m o} e mm => by
      rcases old e with ⟨rfl, rfl⟩ | ⟨_, e⟩
      · exact ⟨_, e1, rfl⟩
      · exact ⟨o, e, mm⟩
    obtain ⟨o', a1, a2⟩ := g q3 m1
    obtain ⟨u', b1, b2⟩ := g q4 m2
    exact h.inj k m b o' u' q1 q2 a1 b1 a2 b2
/-- what is read at a location -/
theorem RS.lst (h : RS K io S H) {n : Nat} {ds : List D} {v : V} (e : S[n]? = some (.lst ds)) (r : RV K io H (.ref n) v) : ∃ a vs, v = .ref a ∧ io[n]? = some a ∧ H a = some (.lst vs) ∧ RVs K io H ds vs := by
  unfold RV at r
  obtain ⟨a, e1, e2⟩ := r
  obtain ⟨vs, q1, q2⟩ := h.obj n _ a e e1
  exact ⟨a, vs, e2, e1, q1, q2⟩
theorem RS.seq (h : RS K io S H) {n : Nat} {ds : List D} {v : V} (e : S[n]? = some (.lst ds) ∨ S[n]? = some (.rol ds)) (r : RV K io H (.ref n) v) : ∃ a vs, v = .ref a ∧ io[n]? = some a ∧ SqL K H a vs ∧ RVs K io H ds vs := by
  unfold RV at r
  obtain ⟨a, e1, e2⟩ := r
  rcases e with e | e
  · obtain ⟨vs, q1, q2⟩ := h.obj n _ a e e1
    exact ⟨a, vs, e2, e1, SqL.of q1, q2⟩
  · obtain ⟨vs, q1, q2⟩ := h.obj n _ a e e1
    exact ⟨a, vs, e2, e1, q1.sq, q2⟩
end
end DL
namespace DL
open PySem PySem.Spec PyProof.Rows L2

/-! ### readings made of a computation -/
section
variable (K : PySem.W.Frag) (mg : Str → Option Value) (W : XK)
def RX (io : List Addr) (H : Hp) (e : Exn) (c : Value) (dd : Option Addr) : Prop := mg e.cls = some c ∧ match e.args with
  | none => dd = none
  | some fs => ∃ d vs, dd = some d ∧ H d = some (.xd vs) ∧ vs.map (·.1) = fs.map (·.1) ∧ RVs K io H (fs.map (·.2)) (vs.map (·.2))
variable {α β : Type} (rel : List Addr → Hp → α → β → Prop)
def EndG (io : List Addr) (H : Hp) (r : R α) (S' : Sto) (Q : β → Hp → Prop) : Prop := match r with
  | .ok d => ∀ io' H' v, Ext K io H io' H' → RS K io' S' H' → rel io' H' d v → Q v H'
  | .ex e => ∀ io' H' c dd, Ext K io H io' H' → RS K io' S' H' → RX K mg io' H' e c dd → W c dd H'
def tG (f : Ev → Sto → Ans α) : L2.St → Hp → (β → Hp → Prop) → Prop := fun σ H Q =>
  ∃ io S env r S', RS K io S H ∧ RE K io H env σ ∧ f env S = some (r, S') ∧ EndG K mg W rel io H r S' Q
abbrev tM (f : Ev → Sto → Ans D) : TE := tG K mg W (RV K) f
abbrev tMA (f : Ev → Sto → Ans (List D)) : TA := tG K mg W (RVs K) f
abbrev rB : List Addr → Hp → Bool → Bool → Prop := fun _ _ a b => a = b
abbrev tMT (f : Ev → Sto → Ans Bool) : TT := tG K mg W rB f
/-- a two-place operation on values, from one on data -/
def rM (g : D → D → Sto → Option (D × Sto)) : R2 := fun x y H Q =>
  ∃ io S a b d S', RS K io S H ∧ RV K io H a x ∧ RV K io H b y ∧ g a b S = some (d, S') ∧ ∀ io' H' v, Ext K io H io' H' → RS K io' S' H' → RV K io' H' d v → Q v H'
def rMU (g : D → Sto → Option (D × Sto)) : V → Hp → VK → Prop := fun x H Q =>
  ∃ io S a d S', RS K io S H ∧ RV K io H a x ∧ g a S = some (d, S') ∧ ∀ io' H' v, Ext K io H io' H' → RS K io' S' H' → RV K io' H' d v → Q v H'
def rMC (g : List D → Sto → Option (D × Sto)) : List V → Hp → VK → Prop := fun xs H Q =>
  ∃ io S ds d S', RS K io S H ∧ RVs K io H ds xs ∧ g ds S = some (d, S') ∧ ∀ io' H' v, Ext K io H io' H' → RS K io' S' H' → RV K io' H' d v → Q v H'
def rMM (g : D → List D → Sto → Option (D × Sto)) : V → List V → Hp → VK → Prop := fun x xs H Q =>
  ∃ io S a ds d S', RS K io S H ∧ RV K io H a x ∧ RVs K io H ds xs ∧ g a ds S = some (d, S') ∧ ∀ io' H' v, Ext K io H io' H' → RS K io' S' H' → RV K io' H' d v → Q v H'
end
section
variable {K : PySem.W.Frag} {mg : Str → Option Value} {W : XK} {α β γ δ : Type} {rel : List Addr → Hp → α → β → Prop} {relg : List Addr → Hp → γ → δ → Prop}
  {io io' : List Addr} {H H' : Hp} {S S' : Sto} {σ : L2.St} {env : Ev}
theorem EndG.mono {r : R α} {Q : β → Hp → Prop} (h : EndG K mg W rel io H r S' Q) (e : Ext K io H io' H') : EndG K mg W rel io' H' r S' Q := by
  cases r with
  | ok d => exact fun io2 H2 v e2 => h io2 H2 v (e.trans e2)
  | ex x => exact fun io2 H2 c dd e2 => h io2 H2 c dd (e.trans e2)
theorem EndG.now {d : α} {v : β} {Q : β → Hp → Prop} (h : EndG K mg W rel io H (.ok d) S' Q) (rs : RS K io S' H) (r : rel io H d v) : Q v H := h io H v Ext.refl rs r
theorem tG_bind2 {f : Ev → Sto → Ans α} {k : α → Sto → Ans γ} {r : R γ} {Q : β → Hp → Prop} {Q0 : δ → Hp → Prop} (rs : RS K io S H) (re : RE K io H env σ) (h : bindR (f env S) k = some (r, S')) (hE : EndG K mg W relg io H r S' Q0)
    (hk : ∀ a S1 io1 H1 v, f env S = some (.ok a, S1) → Ext K io H io1 H1 → RS K io1 S1 H1 → RE K io1 H1 env σ → rel io1 H1 a v → k a S1 = some (r, S') → EndG K mg W relg io1 H1 r S' Q0 → Q v H1) : tG K mg W rel f σ H Q := by
  cases hf : f env S with
  | none =>
    rw [hf] at h
    cases h
  | some p =>
    obtain ⟨ra, S1⟩ := p
    rw [hf] at h
    cases ra with
    | ok a => exact ⟨io, S, env, .ok a, S1, rs, re, hf, fun io1 H1 v e rs1 rv => hk a S1 io1 H1 v hf e rs1 (re.mono e) rv h (hE.mono e)⟩
    | ex e =>
      cases h
      exact ⟨io, S, env, .ex e, _, rs, re, hf, hE⟩
theorem tG_bind {f : Ev → Sto → Ans α} {k : α → Sto → Ans γ} {r : R γ} {Q : β → Hp → Prop} {Q0 : δ → Hp → Prop} (rs : RS K io S H) (re : RE K io H env σ) (h : bindR (f env S) k = some (r, S')) (hE : EndG K mg W relg io H r S' Q0)
    (hk : ∀ a S1 io1 H1 v, Ext K io H io1 H1 → RS K io1 S1 H1 → RE K io1 H1 env σ → rel io1 H1 a v → k a S1 = some (r, S') → EndG K mg W relg io1 H1 r S' Q0 → Q v H1) : tG K mg W rel f σ H Q := by
  cases hf : f env S with
  | none =>
    rw [hf] at h
    cases h
  | some p =>
    obtain ⟨ra, S1⟩ := p
    rw [hf] at h
    cases ra with
    | ok a => exact ⟨io, S, env, .ok a, S1, rs, re, hf, fun io1 H1 v e rs1 rv => hk a S1 io1 H1 v e rs1 (re.mono e) rv h (hE.mono e)⟩
    | ex e =>
      cases h
      exact ⟨io, S, env, .ex e, _, rs, re, hf, hE⟩
/-- the same computation, weaker ends -/
theorem tG_imp {f : Ev → Sto → Ans α} {Q Q' : β → Hp → Prop} (h : tG K mg W rel f σ H Q) (w : ∀ v H, Q v H → Q' v H) : tG K mg W rel f σ H Q' := by
  obtain ⟨io, S, env, r, S', rs, re, hf, hE⟩ := h
  refine ⟨io, S, env, r, S', rs, re, hf, ?_⟩
  cases r with
  | ok d => exact fun io2 H2 v e2 r2 q => w _ _ (hE io2 H2 v e2 r2 q)
  | ex x => exact hE
theorem okO_some {x : Option (D × Sto)} {r : R D} (h : okO x = some (r, S')) : ∃ d, x = some (d, S') ∧ r = .ok d := by
  cases x with
  | none => cases h
  | some p =>
    obtain ⟨d, S1⟩ := p
    cases h
    exact ⟨d, rfl, rfl⟩
end

/-! ### weaker readings -/
section
variable {X : Cx}
theorem pe_weak {e : Expr} {t t' : TE} (h : PE X e t) (w : ∀ σ H Q, t' σ H Q → t σ H Q) : PE X e t' := ⟨fun pins s σ H Q I q => h.run pins s σ H Q I (w σ H Q q)⟩
theorem pt_weak {e : Expr} {t t' : TT} (h : PT X e t) (w : ∀ σ H Q, t' σ H Q → t σ H Q) : PT X e t' := ⟨fun pins s σ H Q I q => h.run pins s σ H Q I (w σ H Q q)⟩
theorem pw_weak {e : Expr} {t t' : TT} (h : PW X e t) (w : ∀ σ H Q, t' σ H Q → t σ H Q) : PW X e t' := ⟨fun wh pins s σ H Q I q => h.run wh pins s σ H Q I (w σ H Q q)⟩
theorem pa_weak {es : List Expr} {t t' : TA} (h : PA X es t) (w : ∀ σ H Q, t' σ H Q → t σ H Q) : PA X es t' := ⟨fun pos pins s σ H Q I q => h.run pos pins s σ H Q I (w σ H Q q)⟩
theorem ps_weak {st : Stmt} {t t' : TS} (h : PS X st t) (w : ∀ E σ H, t' E σ H → t E σ H) : PS X st t' := ⟨fun pins s σ H E I q => h.run pins s σ H E I (w E σ H q)⟩
theorem pss_weak {st : List Stmt} {t t' : TS} (h : PSs X st t) (w : ∀ E σ H, t' E σ H → t E σ H) : PSs X st t' := ⟨fun pins s σ H E I q => h.run pins s σ H E I (w E σ H q)⟩
theorem pi_weak {tg e : Expr} {t t' : TI} (h : PI X tg e t) (w : ∀ σ H Q, t' σ H Q → t σ H Q) : PI X tg e t' := ⟨fun pins s σ H Q I q => h.run pins s σ H Q I (w σ H Q q)⟩
theorem pi_or {tg e : Expr} {t t' : TI} (h : PI X tg e t) (h' : PI X tg e t') : PI X tg e (fun σ H Q => t σ H Q ∨ t' σ H Q) := ⟨fun pins s σ H Q I q => q.elim (h.run pins s σ H Q I) (h'.run pins s σ H Q I)⟩
end

/-! ### the judgements -/
abbrev DE (X : Cx) (W : XK) (e : Expr) (f : Ev → Sto → Ans D) : Prop := PE X e (tM X.K X.mg W f)
abbrev DT (X : Cx) (W : XK) (e : Expr) (f : Ev → Sto → Ans Bool) : Prop := PT X e (tMT X.K X.mg W f)
abbrev DW (X : Cx) (W : XK) (e : Expr) (f : Ev → Sto → Ans Bool) : Prop := PW X e (tMT X.K X.mg W f)
abbrev DA (X : Cx) (W : XK) (es : List Expr) (f : Ev → Sto → Ans (List D)) : Prop := PA X es (tMA X.K X.mg W f)
abbrev OpD (X : Cx) (f : Value → Value → Sem Value) (g : D → D → Sto → Option (D × Sto)) : Prop := OpR X f (rM X.K g)
abbrev UnD (X : Cx) (f : Value → Sem Value) (g : D → Sto → Option (D × Sto)) : Prop := UnR X f (rMU X.K g)
abbrev CallD (X : Cx) (f : Value) (g : List D → Sto → Option (D × Sto)) : Prop := CallR X f (rMC X.K g)
abbrev MtD (X : Cx) (id : String) (g : D → List D → Sto → Option (D × Sto)) : Prop := MtR X id (rMM X.K g)

/-! ### the computations -/
def dVar (i : Nat) : Ev → Sto → Ans D := fun env S => match env[i]? with
  | some (some d) => some (.ok d, S)
  | _ => none
def dC (d : D) : Ev → Sto → Ans D := fun _ S => some (.ok d, S)
def dOp (g : D → D → Sto → Option (D × Sto)) (fa fb : Ev → Sto → Ans D) : Ev → Sto → Ans D := fun env S =>
  bindR (fa env S) fun a S1 => bindR (fb env S1) fun b S2 => okO (g a b S2)
def dUn (g : D → Sto → Option (D × Sto)) (fa : Ev → Sto → Ans D) : Ev → Sto → Ans D := fun env S =>
  bindR (fa env S) fun a S1 => okO (g a S1)
def dNil : Ev → Sto → Ans (List D) := fun _ S => some (.ok [], S)
def dCons (fa : Ev → Sto → Ans D) (fr : Ev → Sto → Ans (List D)) : Ev → Sto → Ans (List D) := fun env S =>
  bindR (fa env S) fun a S1 => bindR (fr env S1) fun r S2 => some (.ok (a :: r), S2)
def dCB (g : List D → Sto → Option (D × Sto)) (fs : Ev → Sto → Ans (List D)) : Ev → Sto → Ans D := fun env S =>
  bindR (fs env S) fun ds S1 => okO (g ds S1)
def dMt (g : D → List D → Sto → Option (D × Sto)) (fo : Ev → Sto → Ans D) (fs : Ev → Sto → Ans (List D)) : Ev → Sto → Ans D := fun env S =>
  bindR (fo env S) fun a S1 => bindR (fs env S1) fun ds S2 => okO (g a ds S2)
def gTup : List D → Sto → Option (D × Sto) := fun ds S => if ds.length ≤ sizeLine then some (.tup ds, S) else none
def gLst : List D → Sto → Option (D × Sto) := fun ds S => if ds.length ≤ sizeLine then some (.ref S.length, S ++ [.lst ds]) else none
/-- the items of a list, a tuple -/
def seqOf (d : D) (S : Sto) : Option (List D) := match d with
  | .tup ds => some ds
  | .ref n => match S[n]? with
    | some (.lst ds) => some ds
    | some (.rol ds) => some ds
    | _ => none
  | _ => none
def truD (d : D) (S : Sto) : Option Bool := match d with
  | .non => some false
  | .bl b => some b
  | .int i => some (i != 0)
  | .str x => if x.length ≤ sizeLine then some ((x.length : Int) != 0) else none
  | d => (seqOf d S).map fun ds => !ds.isEmpty
def okT (x : Option Bool) (S : Sto) : Ans Bool := match x with
  | none => none
  | some b => some (.ok b, S)
def dTru (fa : Ev → Sto → Ans D) : Ev → Sto → Ans Bool := fun env S => bindR (fa env S) fun a S1 => okT (truD a S1) S1
def dAnd (fa fb : Ev → Sto → Ans Bool) : Ev → Sto → Ans Bool := fun env S => bindR (fa env S) fun a S1 => if a = true then fb env S1 else some (.ok false, S1)
def dOr (fa fb : Ev → Sto → Ans Bool) : Ev → Sto → Ans Bool := fun env S => bindR (fa env S) fun a S1 => if a = true then some (.ok true, S1) else fb env S1
def dNot (fa : Ev → Sto → Ans Bool) : Ev → Sto → Ans Bool := fun env S => bindR (fa env S) fun a S1 => some (.ok (!a), S1)
def dAndV (fa fb : Ev → Sto → Ans D) : Ev → Sto → Ans D := fun env S => bindR (fa env S) fun a S1 => bindR (okT (truD a S1) S1) fun c S1 => if c = true then fb env S1 else some (.ok a, S1)
def dOrV (fa fb : Ev → Sto → Ans D) : Ev → Sto → Ans D := fun env S => bindR (fa env S) fun a S1 => bindR (okT (truD a S1) S1) fun c S1 => if c = true then some (.ok a, S1) else fb env S1
def dNotV (fa : Ev → Sto → Ans D) : Ev → Sto → Ans D := fun env S => bindR (fa env S) fun a S1 => bindR (okT (truD a S1) S1) fun c S1 => some (.ok (.bl (!c)), S1)
def dIf (fc : Ev → Sto → Ans Bool) (fa fb : Ev → Sto → Ans D) : Ev → Sto → Ans D := fun env S => bindR (fc env S) fun c S1 => if c = true then fa env S1 else fb env S1

/-! ### the rules -/
section
variable {X : Cx} {W : XK} {a b e : Expr} {es rest : List Expr} {fa fb : Ev → Sto → Ans D} {fs : Ev → Sto → Ans (List D)} {pos : Pos}
theorem RV.seq {K : PySem.W.Frag} {io : List Addr} {S : Sto} {H : Hp} {d : D} {v : V} {ds : List D} (rs : RS K io S H) (r : RV K io H d v) (h : seqOf d S = some ds) : ∃ p vs, v = .ref p ∧ (SqL K H p vs ∨ SqT K H p vs) ∧ RVs K io H ds vs := by
  cases d with
  | tup es =>
    unfold RV at r
    obtain ⟨p, vs, e1, e2, e3⟩ := r
    cases h
    exact ⟨p, vs, e1, .inr e2, e3⟩
  | ref n =>
    have q : S[n]? = some (.lst ds) ∨ S[n]? = some (.rol ds) := by
      simp only [seqOf] at h
      split at h
      · cases h
        exact .inl (by assumption)
      · cases h
        exact .inr (by assumption)
      · cases h
    obtain ⟨p, vs, e1, _, e2, e3⟩ := rs.seq q r
    exact ⟨p, vs, e1, .inl e2, e3⟩
  | non => cases h
  | bl _ => cases h
  | int _ => cases h
  | str _ => cases h
theorem d_var (i : Nat) {x : Str} (hN : X.N[i]? = some x := by rfl) (hv : Vis X.env.scope x := by first | exact Or.inl rfl | exact Or.inr (Or.inl rfl) | exact Or.inr (Or.inr rfl)) (hd : (x == ("__debug__" : Str)) = false := by decide)
    (hcd : (x == ("__classdict__" : Str)) = false := by decide) : DE X W (.Name x pos) (dVar i) :=
  pe_weak (pe_var hN hv hd hcd) fun σ H Q ⟨io, S, env, r, S', rs, re, hf, hE⟩ => by
    unfold dVar at hf
    split at hf
    · rename_i d hd
      cases hf
      obtain ⟨v, e1, e2⟩ := re.get i d hd
      exact ⟨v, e1, hE.now rs e2⟩
    · cases hf
theorem d_int {i : Int} {j} : DE X W (.Constant (.int i) j pos) (dC (.int i)) := pe_weak pe_int fun σ H Q ⟨io, S, env, r, S', rs, re, hf, hE⟩ => by
  cases hf
  exact hE.now rs (by simp [RV])
theorem d_bl {i : Bool} {j} : DE X W (.Constant (.bool i) j pos) (dC (.bl i)) := pe_weak pe_bl fun σ H Q ⟨io, S, env, r, S', rs, re, hf, hE⟩ => by
  cases hf
  exact hE.now rs (by simp [RV])
theorem d_non {j} : DE X W (.Constant .none j pos) (dC .non) := pe_weak pe_non fun σ H Q ⟨io, S, env, r, S', rs, re, hf, hE⟩ => by
  cases hf
  exact hE.now rs (by simp [RV])
theorem d_str {x : Str} {j} : DE X W (.Constant (.str x) j pos) (dC (.str x)) := pe_weak pe_str fun σ H Q ⟨io, S, env, r, S', rs, re, hf, hE⟩ => by
  cases hf
  exact hE.now rs (by simp [RV])
theorem tOp_of {g : D → D → Sto → Option (D × Sto)} {K : PySem.W.Frag} {mg : Str → Option Value} {σ : L2.St} {H : Hp} {Q : VK} (h : tM K mg W (dOp g fa fb) σ H Q) : tOp (rM K g) (tM K mg W fa) (tM K mg W fb) σ H Q := by
  obtain ⟨io, S, env, r, S', rs, re, hf, hE⟩ := h
  refine tG_bind rs re hf hE fun x S1 io1 H1 v e1 rs1 re1 rv1 h1 hE1 => tG_bind rs1 re1 h1 hE1 fun y S2 io2 H2 w e2 rs2 re2 rv2 h2 hE2 => ?_
  obtain ⟨d, h3, rfl⟩ := okO_some h2
  exact ⟨io2, S2, x, y, d, S', rs2, RV.mono e2 x v rv1, rv2, h3, hE2⟩
theorem d_op {op : Operator} {g : D → D → Sto → Option (D × Sto)} (ho : OpD X (binaryOp op) g) (ha : DE X W a fa) (hb : DE X W b fb) : DE X W (.BinOp a op b pos) (dOp g fa fb) := pe_weak (pe_op ho ha hb) fun _ _ _ => tOp_of
theorem d_cmp {op : CmpOp} {g : D → D → Sto → Option (D × Sto)} (ho : OpD X (compareOp op) g) (ha : DE X W a fa) (hb : DE X W b fb) (hm : behindInMarks op b = false) : DE X W (.Compare a [op] [b] pos) (dOp g fa fb) := pe_weak (pe_cmpR ho ha hb hm) fun _ _ _ => tOp_of
theorem d_ix {g : D → D → Sto → Option (D × Sto)} (ho : IxR X (rM X.K g)) (ha : DE X W a fa) (hb : DE X W b fb) (hs : PlainIx b) : DE X W (.Subscript a b pos) (dOp g fa fb) := pe_weak (pe_ix ho ha hb hs) fun _ _ _ => tOp_of
theorem d_un {op : UnaryOp} {g : D → Sto → Option (D × Sto)} (ho : UnD X (unaryOp op) g) (ha : DE X W a fa) : DE X W (.UnaryOp op a pos) (dUn g fa) := pe_weak (pe_un ho ha) fun σ H Q ⟨io, S, env, r, S', rs, re, hf, hE⟩ =>
  tG_bind rs re hf hE fun x S1 io1 H1 v e1 rs1 re1 rv1 h1 hE1 => by
    obtain ⟨d, h2, rfl⟩ := okO_some h1
    exact ⟨io1, S1, x, d, S', rs1, rv1, h2, hE1⟩
theorem da_nil : DA X W [] dNil := pa_weak pa_nil fun σ H Q ⟨io, S, env, r, S', rs, re, hf, hE⟩ => by
  cases hf
  exact hE.now rs RVs.nil
theorem da_cons (ha : DE X W e fa) (hr : DA X W es fs) (hs : starEach (e :: es) X.env = (false, eval e X.env) :: starEach es X.env := by rfl) : DA X W (e :: es) (dCons fa fs) :=
  pa_weak (pa_cons ha hr hs) fun σ H Q ⟨io, S, env, r, S', rs, re, hf, hE⟩ =>
    tG_bind rs re hf hE fun x S1 io1 H1 v e1 rs1 re1 rv1 h1 hE1 => tG_bind rs1 re1 h1 hE1 fun y S2 io2 H2 w e2 rs2 re2 rv2 h2 hE2 => by
      cases h2
      exact hE2.now rs2 (RVs.cons (RV.mono e2 x v rv1) rv2)
theorem d_tup {x1} (h : DA X W es fs) : DE X W (.Tuple es x1 pos) (dCB gTup fs) := pe_weak (pe_tup h) fun σ H Q ⟨io, S, env, r, S', rs, re, hf, hE⟩ =>
  tG_bind rs re hf hE fun x S1 io1 H1 v e1 rs1 re1 rv1 h1 hE1 => by
    obtain ⟨d, h2, rfl⟩ := okO_some h1
    unfold gTup at h2
    split at h2
    · rename_i hl
      cases h2
      refine ⟨by rw [← rv1.length]; exact hl, fun p hp => hE1 io1 _ _ (Ext.fresh hp) (rs1.tupNew hp) ?_⟩
      unfold RV
      exact ⟨p, v, rfl, SqT.of upd_same, RVs.mono (Ext.fresh hp) x v rv1⟩
    · cases h2
theorem d_lst (h : DA X W es fs) : DE X W (.List es pos) (dCB gLst fs) := pe_weak (pe_lst h) fun σ H Q ⟨io, S, env, r, S', rs, re, hf, hE⟩ =>
  tG_bind rs re hf hE fun x S1 io1 H1 v e1 rs1 re1 rv1 h1 hE1 => by
    obtain ⟨d, h2, rfl⟩ := okO_some h1
    unfold gLst at h2
    split at h2
    · rename_i hl
      cases h2
      refine ⟨by rw [← rv1.length]; exact hl, fun p hp => hE1 _ _ _ (Ext.new hp) (rs1.lstNew hp rv1) ?_⟩
      unfold RV
      exact ⟨p, rs1.lastNew, rfl⟩
    · cases h2
theorem d_callB {x : Str} {p : Pos} {id : String} {g : List D → Sto → Option (D × Sto)} (hc : CallD X (.builtin id) g) (hg : Gl X x) (hm : X.mg x = none) (hv : bootBuiltins x = some (.builtin id)) (ha : DA X W (e :: es) fs) (hn : x ≠ "__name__" := by decide) (hdb : (x == ("__debug__" : Str)) = false := by decide)
    (he : starEach (e :: es) X.env = (false, eval e X.env) :: starEach es X.env := by rfl) (hpl : (backTo pos (starEach es X.env)).any (·.1) = false := by rfl) : DE X W (.Call (.Name x p) (e :: es) [] pos) (dCB g fs) :=
  pe_weak (pe_callB hc hg hm hv ha hn hdb he hpl) fun σ H Q ⟨io, S, env, r, S', rs, re, hf, hE⟩ =>
    tG_bind rs re hf hE fun x S1 io1 H1 v e1 rs1 re1 rv1 h1 hE1 => by
      obtain ⟨d, h2, rfl⟩ := okO_some h1
      exact ⟨io1, S1, x, d, S', rs1, rv1, h2, hE1⟩
theorem d_callTy {x : Str} {p : Pos} {T : String} {g : List D → Sto → Option (D × Sto)} (hc : CallD X (.type T) g) (hg : Gl X x) (hm : X.mg x = none) (hv : bootBuiltins x = some (.type T)) (ha : DA X W (e :: es) fs) (hn : x ≠ "__name__" := by decide) (hdb : (x == ("__debug__" : Str)) = false := by decide)
    (he : starEach (e :: es) X.env = (false, eval e X.env) :: starEach es X.env := by rfl) (hpl : (backTo pos (starEach es X.env)).any (·.1) = false := by rfl) : DE X W (.Call (.Name x p) (e :: es) [] pos) (dCB g fs) :=
  pe_weak (pe_callTy hc hg hm hv ha hn hdb he hpl) fun σ H Q ⟨io, S, env, r, S', rs, re, hf, hE⟩ =>
    tG_bind rs re hf hE fun x S1 io1 H1 v e1 rs1 re1 rv1 h1 hE1 => by
      obtain ⟨d, h2, rfl⟩ := okO_some h1
      exact ⟨io1, S1, x, d, S', rs1, rv1, h2, hE1⟩
/-! tests -/
theorem truV_of {K : PySem.W.Frag} {io : List Addr} {S : Sto} {H : Hp} {d : D} {v : V} {k : Bool} (rs : RS K io S H) (r : RV K io H d v) (h : truD d S = some k) : TruV K v H k := by
  have sq : ∀ {d : D}, RV K io H d v → (seqOf d S).map (fun ds => !ds.isEmpty) = some k → TruV K v H k := fun {d} r h => by
    cases hs : seqOf d S with
    | none => rw [hs] at h; cases h
    | some ds =>
      rw [hs] at h
      obtain ⟨p, vs, rfl, e2, e3⟩ := RV.seq rs r hs
      cases h
      have el : ds.isEmpty = vs.isEmpty := by
        have := e3.length
        cases ds <;> cases vs <;> simp_all
      show (∃ xs, SqL K H p xs ∧ (!ds.isEmpty) = !xs.isEmpty) ∨ (∃ xs, SqT K H p xs ∧ (!ds.isEmpty) = !xs.isEmpty) ∨ _
      rw [el]
      rcases e2 with e2 | e2
      · exact .inl ⟨vs, e2, rfl⟩
      · exact .inr (.inl ⟨vs, e2, rfl⟩)
  cases d with
  | non => unfold RV at r; subst r; cases h; rfl
  | bl _ => unfold RV at r; subst r; cases h; rfl
  | int _ => unfold RV at r; subst r; cases h; rfl
  | str x =>
    unfold RV at r
    subst r
    unfold truD at h
    split at h <;> try (rename_i e; cases e)
    · split at h
      · rename_i hl
        cases h
        exact ⟨hl, rfl⟩
      · cases h
    · rename_i h1 _ _; simp at *
  | tup ds => exact sq r h
  | ref n => exact sq r h
theorem okT_some {x : Option Bool} {S S' : Sto} {r : R Bool} (h : okT x S = some (r, S')) : ∃ b, x = some b ∧ r = .ok b ∧ S' = S := by
  cases x with
  | none => cases h
  | some b =>
    cases h
    exact ⟨b, rfl, rfl, rfl⟩
theorem dt_of (ha : DE X W a fa) (he : ∀ whole, isTrue a X.env whole = (do let v ← whole; standAt a.pos; holding [v] (truthy v)) := by intro _; rfl) : DT X W a (dTru fa) :=
  pt_weak (pt_truth ha he) fun σ H Q ⟨io, S, env, r, S', rs, re, hf, hE⟩ =>
    tG_bind rs re hf hE fun x S1 io1 H1 v e1 rs1 re1 rv1 h1 hE1 => by
      obtain ⟨k, h2, rfl, rfl⟩ := okT_some h1
      exact ⟨k, truV_of rs1 rv1 h2, hE1.now rs1 rfl⟩
/-- a comparison as a test -/
def blOf (d : D) : Option Bool := match d with
  | .bl b => some b
  | _ => none
def dBl (fa : Ev → Sto → Ans D) : Ev → Sto → Ans Bool := fun env S => bindR (fa env S) fun a S1 => okT (blOf a) S1
theorem dt_cmp {op : CmpOp} {g : D → D → Sto → Option (D × Sto)} (ho : OpD X (compareOp op) g) (ha : DE X W a fa) (hb : DE X W b fb) (hm : behindInMarks op b = false) : DT X W (.Compare a [op] [b] pos) (dBl (dOp g fa fb)) :=
  pt_weak (pt_cmpR ho ha hb hm) fun σ H Q ⟨io, S, env, r, S', rs, re, hf, hE⟩ => tOp_of (tG_bind rs re hf hE fun x S1 io1 H1 v e1 rs1 re1 rv1 h1 hE1 => by
      obtain ⟨k, h2, rfl, rfl⟩ := okT_some h1
      cases x <;> first | cases h2 | skip
      unfold RV at rv1
      subst rv1
      exact ⟨_, rfl, hE1.now rs1 rfl⟩)
variable {ga gb : Ev → Sto → Ans Bool}
theorem dt_not (ha : DT X W a ga) : DT X W (.UnaryOp .Not a pos) (dNot ga) := pt_weak (pt_not ha) fun σ H Q ⟨io, S, env, r, S', rs, re, hf, hE⟩ =>
  tG_bind rs re hf hE fun x S1 io1 H1 v e1 rs1 re1 rv1 h1 hE1 => by
    cases h1
    cases rv1
    exact hE1.now rs1 rfl
theorem dw_and1 (ha : DT X W a ga) : DW X W (.BoolOp .And [a] pos) ga := pw_and1 ha
theorem dw_or1 (ha : DT X W a ga) : DW X W (.BoolOp .Or [a] pos) ga := pw_or1 ha
theorem dw_and (ha : DT X W a ga) (hb : DW X W (.BoolOp .And (b :: rest) pos) gb) : DW X W (.BoolOp .And (a :: b :: rest) pos) (dAnd ga gb) := pw_weak (pw_and ha hb) fun σ H Q ⟨io, S, env, r, S', rs, re, hf, hE⟩ =>
  tG_bind rs re hf hE fun x S1 io1 H1 v e1 rs1 re1 rv1 h1 hE1 => by
    cases rv1
    cases x with
    | true => exact ⟨io1, S1, env, r, S', rs1, re1, h1, hE1⟩
    | false =>
      cases h1
      exact hE1.now rs1 rfl
theorem dw_or (ha : DT X W a ga) (hb : DW X W (.BoolOp .Or (b :: rest) pos) gb) : DW X W (.BoolOp .Or (a :: b :: rest) pos) (dOr ga gb) := pw_weak (pw_or ha hb) fun σ H Q ⟨io, S, env, r, S', rs, re, hf, hE⟩ =>
  tG_bind rs re hf hE fun x S1 io1 H1 v e1 rs1 re1 rv1 h1 hE1 => by
    cases rv1
    cases x with
    | false => exact ⟨io1, S1, env, r, S', rs1, re1, h1, hE1⟩
    | true =>
      cases h1
      exact hE1.now rs1 rfl
theorem dt_w (h : DW X W a ga) : DT X W a ga := h.pt
/-! and, or, not as values -/
theorem d_one {op} (h : DE X W a fa) : DE X W (.BoolOp op [a] pos) fa := pe_one h
theorem d_and (ha : DE X W a fa) (hb : DE X W (.BoolOp .And (b :: rest) pos) fb) : DE X W (.BoolOp .And (a :: b :: rest) pos) (dAndV fa fb) := pe_weak (pe_andT ha hb) fun σ H Q ⟨io, S, env, r, S', rs, re, hf, hE⟩ =>
  tG_bind rs re hf hE fun x S1 io1 H1 v e1 rs1 re1 rv1 h1 hE1 => by
    cases ht : truD x S1 with
    | none => rw [ht] at h1; cases h1
    | some k =>
      rw [ht] at h1
      refine ⟨k, truV_of rs1 rv1 ht, ?_⟩
      cases k with
      | true => exact ⟨io1, S1, env, r, S', rs1, re1, h1, hE1⟩
      | false =>
        cases h1
        exact hE1.now rs1 rv1
theorem d_or (ha : DE X W a fa) (hb : DE X W (.BoolOp .Or (b :: rest) pos) fb) : DE X W (.BoolOp .Or (a :: b :: rest) pos) (dOrV fa fb) := pe_weak (pe_orT ha hb) fun σ H Q ⟨io, S, env, r, S', rs, re, hf, hE⟩ =>
  tG_bind rs re hf hE fun x S1 io1 H1 v e1 rs1 re1 rv1 h1 hE1 => by
    cases ht : truD x S1 with
    | none => rw [ht] at h1; cases h1
    | some k =>
      rw [ht] at h1
      refine ⟨k, truV_of rs1 rv1 ht, ?_⟩
      cases k with
      | false => exact ⟨io1, S1, env, r, S', rs1, re1, h1, hE1⟩
      | true =>
        cases h1
        exact hE1.now rs1 rv1
theorem d_not (ha : DE X W a fa) : DE X W (.UnaryOp .Not a pos) (dNotV fa) := pe_weak (pe_notT ha) fun σ H Q ⟨io, S, env, r, S', rs, re, hf, hE⟩ =>
  tG_bind rs re hf hE fun x S1 io1 H1 v e1 rs1 re1 rv1 h1 hE1 => by
    cases ht : truD x S1 with
    | none => rw [ht] at h1; cases h1
    | some k =>
      rw [ht] at h1
      cases h1
      exact ⟨k, truV_of rs1 rv1 ht, hE1.now rs1 (by simp [RV])⟩
theorem d_if {c : Expr} {gc : Ev → Sto → Ans Bool} (hc : DT X W c gc) (ha : DE X W a fa) (hb : DE X W b fb) : DE X W (.IfExp c a b pos) (dIf gc fa fb) := pe_weak (pe_ifExp hc ha hb) fun σ H Q ⟨io, S, env, r, S', rs, re, hf, hE⟩ =>
  tG_bind rs re hf hE fun x S1 io1 H1 v e1 rs1 re1 rv1 h1 hE1 => by
    cases rv1
    cases x with
    | true => exact ⟨io1, S1, env, r, S', rs1, re1, h1, hE1⟩
    | false => exact ⟨io1, S1, env, r, S', rs1, re1, h1, hE1⟩
end
end DL
namespace DL
open PySem PySem.Spec PyProof.Rows L2

/-! ### statements -/
inductive Out where
  | nx | rt (d : D) | bk | ct | ex (e : Exn)
abbrev AnsS := Option (Out × Ev × Sto)
def bindS {α : Type} (x : Ans α) (env : Ev) (k : α → Sto → AnsS) : AnsS := match x with
  | none => none
  | some (.ex e, S) => some (.ex e, env, S)
  | some (.ok a, S) => k a S
section
variable (K : PySem.W.Frag) (mg : Str → Option Value) (W : XK)
def EndS (io : List Addr) (H : Hp) (o : Out) (env' : Ev) (S' : Sto) (E : Ends) : Prop := match o with
  | .nx => ∀ io' H' σ', Ext K io H io' H' → RS K io' S' H' → RE K io' H' env' σ' → E.nx σ' H'
  | .bk => ∀ io' H' σ', Ext K io H io' H' → RS K io' S' H' → RE K io' H' env' σ' → E.bk σ' H'
  | .ct => ∀ io' H' σ', Ext K io H io' H' → RS K io' S' H' → RE K io' H' env' σ' → E.ct σ' H'
  | .rt d => ∀ io' H' v, Ext K io H io' H' → RS K io' S' H' → RV K io' H' d v → E.rt v H'
  | .ex e => ∀ io' H' c dd, Ext K io H io' H' → RS K io' S' H' → RX K mg io' H' e c dd → W c dd H'
def tS (f : Ev → Sto → AnsS) : TS := fun E σ H => ∃ io S env o env' S', RS K io S H ∧ RE K io H env σ ∧ f env S = some (o, env', S') ∧ EndS K mg W io H o env' S' E
/-- a store o[i] = v, from one on data -/
def rMSet (g : D → D → D → Sto → Option Sto) : TSet := fun o i v H Q => ∃ io S a b d S', RS K io S H ∧ RV K io H a o ∧ RV K io H b i ∧ RV K io H d v ∧ g a b d S = some S' ∧ ∀ io' H', Ext K io H io' H' → RS K io' S' H' → Q H'
end
abbrev DS (X : Cx) (W : XK) (st : Stmt) (f : Ev → Sto → AnsS) : Prop := PS X st (tS X.K X.mg W f)
abbrev DSs (X : Cx) (W : XK) (st : List Stmt) (f : Ev → Sto → AnsS) : Prop := PSs X st (tS X.K X.mg W f)
abbrev SetD (X : Cx) (g : D → D → D → Sto → Option Sto) : Prop := PSet X (rMSet X.K g)

section
variable {K : PySem.W.Frag} {mg : Str → Option Value} {W : XK} {α β : Type} {rel : List Addr → Hp → α → β → Prop} {io io' : List Addr} {H H' : Hp} {S S' : Sto} {σ : L2.St} {env env' : Ev} {o : Out}
theorem EndS.mono {E : Ends} (h : EndS K mg W io H o env' S' E) (e : Ext K io H io' H') : EndS K mg W io' H' o env' S' E := by
  cases o with
  | nx => exact fun io2 H2 v e2 => h io2 H2 v (e.trans e2)
  | bk => exact fun io2 H2 v e2 => h io2 H2 v (e.trans e2)
  | ct => exact fun io2 H2 v e2 => h io2 H2 v (e.trans e2)
  | rt d => exact fun io2 H2 v e2 => h io2 H2 v (e.trans e2)
  | ex x => exact fun io2 H2 c dd e2 => h io2 H2 c dd (e.trans e2)
theorem tG_bindS {f : Ev → Sto → Ans α} {k : α → Sto → AnsS} {Q : β → Hp → Prop} {E : Ends} (rs : RS K io S H) (re : RE K io H env σ) (h : bindS (f env S) env k = some (o, env', S')) (hE : EndS K mg W io H o env' S' E)
    (hk : ∀ a S1 io1 H1 v, f env S = some (.ok a, S1) → Ext K io H io1 H1 → RS K io1 S1 H1 → RE K io1 H1 env σ → rel io1 H1 a v → k a S1 = some (o, env', S') → EndS K mg W io1 H1 o env' S' E → Q v H1) : tG K mg W rel f σ H Q := by
  cases hf : f env S with
  | none =>
    rw [hf] at h
    cases h
  | some p =>
    obtain ⟨ra, S1⟩ := p
    rw [hf] at h
    cases ra with
    | ok a => exact ⟨io, S, env, .ok a, S1, rs, re, hf, fun io1 H1 v e rs1 rv => hk a S1 io1 H1 v hf e rs1 (re.mono e) rv h (hE.mono e)⟩
    | ex e =>
      cases h
      exact ⟨io, S, env, .ex e, _, rs, re, hf, hE⟩
end

/-! ### targets -/
inductive Tg where
  | nm (i : Nat) | tp (l : List Tg)
mutual
def Tg.put : Tg → D → Ev → Option Ev
  | .nm i, d, env => some (env.set i (some d))
  | .tp l, .tup ds, env => Tg.puts l ds env
  | .tp _, _, _ => none
def Tg.puts : List Tg → List D → Ev → Option Ev
  | [], [], env => some env
  | t :: ts, d :: ds, env => match Tg.put t d env with
    | some env1 => Tg.puts ts ds env1
    | none => none
  | _, _, _ => none
end
mutual
def Tg.slots : Tg → List Nat
  | .nm i => [i]
  | .tp l => Tg.slotss l
def Tg.slotss : List Tg → List Nat
  | [] => []
  | t :: ts => Tg.slots t ++ Tg.slotss ts
end
theorem Tg.puts_len : ∀ {l : List Tg} {ds : List D} {env env' : Ev}, Tg.puts l ds env = some env' → ds.length = l.length
  | [], [], _, _, _ => rfl
  | t :: ts, d :: ds, env, env', h => by
    unfold Tg.puts at h
    split at h
    · simpa using Tg.puts_len h
    · cases h
  | [], _ :: _, _, _, h => by simp [Tg.puts] at h
  | _ :: _, [], _, _, h => by simp [Tg.puts] at h
section
variable (K : PySem.W.Frag)
def tTg (t : Tg) : TG := fun v σ H Q => ∃ io env d env', RE K io H env σ ∧ RV K io H d v ∧ t.put d env = some env' ∧ ∀ σ', RE K io H env' σ' → (∀ j, j ∉ t.slots → σ'[j]? = σ[j]?) → σ'.length = σ.length → Q σ' H
def tTgs (t : List Tg) : TGs := fun vs σ H Q => ∃ io env ds env', RE K io H env σ ∧ RVs K io H ds vs ∧ Tg.puts t ds env = some env' ∧ ∀ σ', RE K io H env' σ' → (∀ j, j ∉ Tg.slotss t → σ'[j]? = σ[j]?) → σ'.length = σ.length → Q σ' H
end
section
variable {X : Cx} {pos : Pos}
theorem pg_weak {tg : Expr} {t t' : TG} (h : PG X tg t) (w : ∀ v σ H Q, t' v σ H Q → t v σ H Q) : PG X tg t' := ⟨fun pins s σ H v u Q I r q => h.run pins s σ H v u Q I r (w v σ H Q q)⟩
theorem pgs_weak {tg : List Expr} {t t' : TGs} (h : PGs X tg t) (w : ∀ v σ H Q, t' v σ H Q → t v σ H Q) : PGs X tg t' := ⟨fun pins s σ H v u Q I r q => h.run pins s σ H v u Q I r (w v σ H Q q)⟩
theorem dg_name {i : Nat} {x : Str} (hN : X.N.Nodup) (hi : X.N[i]? = some x) (hx : Loc X.env.scope x) (hf : X.fn x = true ∨ X.env.scope.names.lookup x = some .local := by first | exact .inl rfl | exact .inr rfl | assumption) : PG X (.Name x pos) (tTg X.K (.nm i)) :=
  pg_weak (pg_name hN hi hx hf) fun v σ H Q ⟨io, env, d, env', re, rv, hp, q⟩ => by
    unfold Tg.put at hp
    cases hp
    refine q _ (re.set i rv) (fun j hj => List.getElem?_set_ne fun z => hj ?_) (by simp)
    simp [Tg.slots, z]
theorem dgs_nil : PGs X [] (tTgs X.K []) := pgs_weak pgs_nil fun vs σ H Q ⟨io, env, ds, env', re, rv, hp, q⟩ => by
  have e := Tg.puts_len hp
  cases ds with
  | cons _ _ => simp at e
  | nil =>
    unfold RVs at rv
    unfold Tg.puts at hp
    cases hp
    exact ⟨rv, q σ re (fun _ _ => rfl) rfl⟩
theorem dgs_cons {e : Expr} {es : List Expr} {t : Tg} {ts : List Tg} (h1 : PG X e (tTg X.K t)) (h2 : PGs X es (tTgs X.K ts))
    (hs : (assignEach (e :: es) X.env).map (·.2) = assign e X.env :: (assignEach es X.env).map (·.2) := by rfl) : PGs X (e :: es) (tTgs X.K (t :: ts)) :=
  pgs_weak (pgs_cons h1 h2 hs) fun vs σ H Q ⟨io, env, ds, env', re, rv, hp, q⟩ => by
    cases ds with
    | nil => simp [Tg.puts] at hp
    | cons d ds =>
      unfold RVs at rv
      obtain ⟨v, r, rfl, rv1, rv2⟩ := rv
      unfold Tg.puts at hp
      split at hp
      · rename_i env1 h1
        refine ⟨v, r, rfl, io, env, d, env1, re, rv1, h1, fun σ1 re1 f1 l1 => ⟨io, env1, ds, env', re1, rv2, hp, fun σ2 re2 f2 l2 => q σ2 re2 (fun j hj => ?_) (l2.trans l1)⟩⟩
        have hj' : j ∉ t.slots ∧ j ∉ Tg.slotss ts := by simpa [Tg.slotss] using hj
        exact (f2 j hj'.2).trans (f1 j hj'.1)
      · cases hp
theorem dg_tup {es : List Expr} {k : Nat} {ts : List Tg} (hc : X.calm = true) (h : PGs X es (tTgs X.K ts)) (hl : ts.length = es.length := by rfl)
    (hn : (assignEach es X.env).length = es.length := by rfl) (hst : (assignEach es X.env).findIdx? (·.1) = none := by rfl) : PG X (.Tuple es k pos) (tTg X.K (.tp ts)) :=
  pg_weak (pg_tup hc h hn hst) fun v σ H Q ⟨io, env, d, env', re, rv, hp, q⟩ => by
    cases d with
    | tup ds =>
      unfold RV at rv
      obtain ⟨a, vs, rfl, h1, h2⟩ := rv
      unfold Tg.put at hp
      exact ⟨a, vs, rfl, h1, by rw [← h2.length, Tg.puts_len hp, hl], io, env, ds, env', re, h2, hp, fun σ' re' f l => q σ' re' (by simpa [Tg.slots] using f) l⟩
    | non => simp [Tg.put] at hp
    | bl _ => simp [Tg.put] at hp
    | int _ => simp [Tg.put] at hp
    | str _ => simp [Tg.put] at hp
    | ref _ => simp [Tg.put] at hp
end

/-! ### the computations -/
def sNext : Ev → Sto → AnsS := fun env S => some (.nx, env, S)
def sBreak : Ev → Sto → AnsS := fun env S => some (.bk, env, S)
def sCont : Ev → Sto → AnsS := fun env S => some (.ct, env, S)
def sSeq (f g : Ev → Sto → AnsS) : Ev → Sto → AnsS := fun env S => match f env S with
  | some (.nx, env1, S1) => g env1 S1
  | x => x
def sAsg (t : Tg) (fe : Ev → Sto → Ans D) : Ev → Sto → AnsS := fun env S => bindS (fe env S) env fun d S1 => match t.put d env with
  | some env1 => some (.nx, env1, S1)
  | none => none
def sSub (g : D → D → D → Sto → Option Sto) (fe fo fi : Ev → Sto → Ans D) : Ev → Sto → AnsS := fun env S => bindS (fe env S) env fun d S1 => bindS (fo env S1) env fun o S2 => bindS (fi env S2) env fun i S3 => match g o i d S3 with
  | some S4 => some (.nx, env, S4)
  | none => none
def sAug (i : Nat) (g : D → D → Sto → Option (D × Sto)) (fe : Ev → Sto → Ans D) : Ev → Sto → AnsS := fun env S => match env[i]? with
  | some (some x) => bindS (fe env S) env fun y S1 => match g x y S1 with
    | some (z, S2) => some (.nx, env.set i (some z), S2)
    | none => none
  | _ => none
def sAugS (gg gp : D → D → Sto → Option (D × Sto)) (gs : D → D → D → Sto → Option Sto) (fo fi fe : Ev → Sto → Ans D) : Ev → Sto → AnsS := fun env S =>
  bindS (fo env S) env fun o S1 => bindS (fi env S1) env fun i S2 => bindS (okO (gg o i S2)) env fun x S3 => bindS (fe env S3) env fun y S4 => bindS (okO (gp x y S4)) env fun z S5 => match gs o i z S5 with
  | some S6 => some (.nx, env, S6)
  | none => none
def sExpr (fe : Ev → Sto → Ans D) : Ev → Sto → AnsS := fun env S => bindS (fe env S) env fun _ S1 => some (.nx, env, S1)
def sRet (fe : Ev → Sto → Ans D) : Ev → Sto → AnsS := fun env S => bindS (fe env S) env fun d S1 => some (.rt d, env, S1)
def sRetN : Ev → Sto → AnsS := fun env S => some (.rt .non, env, S)
def sIf (fc : Ev → Sto → Ans Bool) (f g : Ev → Sto → AnsS) : Ev → Sto → AnsS := fun env S => bindS (fc env S) env fun c S1 => if c = true then f env S1 else g env S1
def whileD (fc : Ev → Sto → Ans Bool) (fb : Ev → Sto → AnsS) : Nat → Ev → Sto → AnsS
  | 0, _, _ => none
  | n + 1, env, S => bindS (fc env S) env fun c S1 => if c = true then match fb env S1 with
      | some (.nx, env2, S2) => whileD fc fb n env2 S2
      | some (.ct, env2, S2) => whileD fc fb n env2 S2
      | some (.bk, env2, S2) => some (.nx, env2, S2)
      | x => x
    else some (.nx, env, S1)
def sWhile (n : Nat) (fc : Ev → Sto → Ans Bool) (fb : Ev → Sto → AnsS) : Ev → Sto → AnsS := whileD fc fb n
/-- what a loop walks: its items, as long as ok holds -/
structure Wk where
  ok : Sto → Prop
  items : List D
open Classical in
noncomputable def forD (ok : Sto → Prop) (t : Tg) (fb : Ev → Sto → AnsS) : List D → Ev → Sto → AnsS
  | [], env, S => if ok S then some (.nx, env, S) else none
  | x :: xs, env, S => if ok S then match t.put x env with
      | none => none
      | some env1 => match fb env1 S with
        | some (.nx, env2, S2) => forD ok t fb xs env2 S2
        | some (.ct, env2, S2) => forD ok t fb xs env2 S2
        | some (.bk, env2, S2) => some (.nx, env2, S2)
        | y => y
    else none
noncomputable def sFor (fi : Ev → Sto → Ans Wk) (t : Tg) (fb : Ev → Sto → AnsS) : Ev → Sto → AnsS := fun env S => bindS (fi env S) env fun w S1 => forD w.ok t fb w.items env S1

section
variable (K : PySem.W.Frag) (mg : Str → Option Value) (W : XK)
def ItOk (io0 : List Addr) (H0 : Hp) (w : Wk) (J : It) : Prop := ∀ (i : Nat) (io : List Addr) (S : Sto) (H : Hp), Ext K io0 H0 io H → RS K io S H → w.ok S →
  (w.items.length ≤ i → J.stop i H) ∧ ∀ x, w.items[i]? = some x → J.go i H ∧ ∀ v H', J.yld i H v H' → ∃ io', Ext K io H io' H' ∧ RS K io' S H' ∧ RV K io' H' x v
def tIM (fi : Ev → Sto → Ans Wk) : TI := tG K mg W (ItOk K) fi
end
abbrev DI (X : Cx) (W : XK) (tg e : Expr) (fi : Ev → Sto → Ans Wk) : Prop := PI X tg e (tIM X.K X.mg W fi)

/-! ### the rules -/
section
variable {X : Cx} {W : XK} {st : Stmt} {rest : List Stmt} {e a b : Expr} {f g : Ev → Sto → AnsS} {fe fo fi : Ev → Sto → Ans D} {pos : Pos}
theorem dss_nil : DSs X W [] sNext := pss_weak pss_nil fun E σ H ⟨io, S, env, o, env', S', rs, re, hf, hE⟩ => by
  cases hf
  exact hE io H σ Ext.refl rs re
theorem dss_cons (h1 : DS X W st f) (h2 : DSs X W rest g) : DSs X W (st :: rest) (sSeq f g) := pss_weak (pss_cons h1 h2) fun E σ H ⟨io, S, env, o, env', S', rs, re, hf, hE⟩ => by
  unfold sSeq at hf
  cases h : f env S with
  | none =>
    rw [h] at hf
    cases hf
  | some p =>
    obtain ⟨o1, env1, S1⟩ := p
    rw [h] at hf
    cases o1 with
    | nx => exact ⟨io, S, env, .nx, env1, S1, rs, re, h, fun io1 H1 σ1 e1 rs1 re1 => ⟨io1, S1, env1, o, env', S', rs1, re1, hf, hE.mono e1⟩⟩
    | rt d => cases hf; exact ⟨io, S, env, _, _, _, rs, re, h, hE⟩
    | bk => cases hf; exact ⟨io, S, env, _, _, _, rs, re, h, hE⟩
    | ct => cases hf; exact ⟨io, S, env, _, _, _, rs, re, h, hE⟩
    | ex x => cases hf; exact ⟨io, S, env, _, _, _, rs, re, h, hE⟩
theorem dss_one (h1 : DS X W st f) : DSs X W [st] f := pss_one h1
theorem ds_pass : DS X W (.Pass pos) sNext := ps_weak ps_pass fun E σ H ⟨io, S, env, o, env', S', rs, re, hf, hE⟩ => by
  cases hf
  exact hE io H σ Ext.refl rs re
theorem ds_break : DS X W (.Break pos) sBreak := ps_weak ps_break fun E σ H ⟨io, S, env, o, env', S', rs, re, hf, hE⟩ => by
  cases hf
  exact hE io H σ Ext.refl rs re
theorem ds_continue : DS X W (.Continue pos) sCont := ps_weak ps_continue fun E σ H ⟨io, S, env, o, env', S', rs, re, hf, hE⟩ => by
  cases hf
  exact hE io H σ Ext.refl rs re
theorem ds_set {i : Nat} {x : Str} {pos' : Pos} (hN : X.N.Nodup) (hi : X.N[i]? = some x) (hx : Loc X.env.scope x) (he : DE X W e fe) (hs : swapsWith e (some (.Name x pos')) pos.line X.env = pure false := by rfl) (hf : X.fn x = true ∨ X.env.scope.names.lookup x = some .local := by first | exact .inl rfl | exact .inr rfl | assumption) :
    DS X W (.Assign [.Name x pos'] e pos) (sAsg (.nm i) fe) := ps_weak (ps_set hN hi hx he hs hf) fun E σ H ⟨io, S, env, o, env', S', rs, re, hf, hE⟩ =>
  tG_bindS rs re hf hE fun d S1 io1 H1 v _ e1 rs1 re1 rv h1 hE1 => by
    simp only [Tg.put] at h1
    cases h1
    exact hE1 io1 H1 _ Ext.refl rs1 (re1.set i rv)
theorem ds_asg {tg : Expr} {t : Tg} (he : DE X W e fe) (hg : PG X tg (tTg X.K t)) (hs : swapsWithSole [tg] e pos.line X.env = pure false := by rfl) (hw : swappedStores [tg] e X.env = pure none := by rfl)
    (h1 : (assignEach [tg] X.env).map (·.2) = [assign tg X.env] := by rfl) : DS X W (.Assign [tg] e pos) (sAsg t fe) := ps_weak (ps_asg he hg hs hw h1) fun E σ H ⟨io, S, env, o, env', S', rs, re, hf, hE⟩ =>
  tG_bindS rs re hf hE fun d S1 io1 H1 v _ e1 rs1 re1 rv h1 hE1 => by
    cases hp : t.put d env with
    | none =>
      rw [hp] at h1
      cases h1
    | some env1 =>
      rw [hp] at h1
      cases h1
      exact ⟨io1, env, d, _, re1, rv, hp, fun σ' re' _ _ => hE1 io1 H1 σ' Ext.refl rs1 re'⟩
theorem ds_sub {oe ie : Expr} {p : Pos} {gs : D → D → D → Sto → Option Sto} (hs' : SetD X gs) (he : DE X W e fe) (ho : DE X W oe fo) (hi : DE X W ie fi)
    (ha : ∀ v, assign (.Subscript oe ie p) X.env v = (do
      let ov ← holding [v] (eval oe X.env)
      let iv ← holding [v, ov] (eval ie X.env)
      standAt p
      holding [v, ov, iv] (setItem ov iv v)
      release [v, ov, iv] []) := by intro _; rfl) (hs : swapsWithSole [.Subscript oe ie p] e pos.line X.env = pure false := by rfl) (hw : swappedStores [.Subscript oe ie p] e X.env = pure none := by rfl)
    (h1 : (assignEach [.Subscript oe ie p] X.env).map (·.2) = [assign (.Subscript oe ie p) X.env] := by rfl) : DS X W (.Assign [.Subscript oe ie p] e pos) (sSub gs fe fo fi) := ps_weak (ps_asg he (pg_sub ho hi hs' ha) hs hw h1) fun E σ H ⟨io, S, env, o, env', S', rs, re, hf, hE⟩ =>
  tG_bindS rs re hf hE fun d S1 io1 H1 v _ e1 rs1 re1 rv h1 hE1 => tG_bindS rs1 re1 h1 hE1 fun o2 S2 io2 H2 v2 _ e2 rs2 re2 rv2 h2 hE2 => tG_bindS rs2 re2 h2 hE2 fun i3 S3 io3 H3 v3 _ e3 rs3 re3 rv3 h3 hE3 => by
    cases hp : gs o2 i3 d S3 with
    | none =>
      rw [hp] at h3
      cases h3
    | some S4 =>
      rw [hp] at h3
      cases h3
      exact ⟨io3, S3, o2, i3, d, _, rs3, RV.mono e3 _ _ rv2, rv3, RV.mono (e2.trans e3) _ _ rv, hp, fun io4 H4 e4 rs4 => hE3 io4 H4 σ e4 rs4 (re3.mono e4)⟩
theorem ds_aug {i : Nat} {x : Str} {op : Operator} {g : D → D → Sto → Option (D × Sto)} {pos' : Pos} (hN : X.N.Nodup) (hi : X.N[i]? = some x) (hx : Loc X.env.scope x) (ho : OpD X (inplaceOp op) g) (he : DE X W e fe) (hf : X.fn x = true ∨ X.env.scope.names.lookup x = some .local := by first | exact .inl rfl | exact .inr rfl | assumption) :
    DS X W (.AugAssign (.Name x pos') op e pos) (sAug i g fe) := ps_weak (ps_aug (ti := rM X.K g) hN hi hx he ho hf) fun E σ H ⟨io, S, env, o, env', S', rs, re, hf, hE⟩ => by
  unfold sAug at hf
  split at hf
  · rename_i d hd
    obtain ⟨u, hu1, hu2⟩ := re.get i d hd
    refine ⟨u, hu1, tG_bindS rs re hf hE fun y S1 io1 H1 v _ e1 rs1 re1 rv h1 hE1 => ?_⟩
    cases hp : g d y S1 with
    | none =>
      rw [hp] at h1
      cases h1
    | some q =>
      obtain ⟨z, S2⟩ := q
      rw [hp] at h1
      cases h1
      exact ⟨io1, S1, d, y, z, _, rs1, RV.mono e1 _ _ hu2, rv, hp, fun io2 H2 v2 e2 rs2 rv2 => hE1 io2 H2 _ e2 rs2 ((re1.mono e2).set i rv2)⟩
  · cases hf
theorem ds_augS {oe ie : Expr} {tpos : Pos} {op : Operator} {gg gp : D → D → Sto → Option (D × Sto)} {gs : D → D → D → Sto → Option Sto} (hg : OpD X getItem gg) (hp : OpD X (inplaceOp op) gp) (hs : SetD X gs) (ho : DE X W oe fo) (hi : DE X W ie fi) (he : DE X W e fe)
    (ha : ∀ ov iv new, augStore ie ov iv new = (do holding [new, ov, iv] (setItem ov iv new); release [new, ov, iv] []; pure .next) := by intros; rfl) : DS X W (.AugAssign (.Subscript oe ie tpos) op e pos) (sAugS gg gp gs fo fi fe) :=
  ps_weak (ps_augS (tget := rM X.K gg) (tip := rM X.K gp) ho hi hg he hp hs ha) fun E σ H ⟨io, S, env, o, env', S', rs, re, hf, hE⟩ =>
    tG_bindS rs re hf hE fun o1 S1 io1 H1 v1 _ e1 rs1 re1 rv1 h1 hE1 => tG_bindS rs1 re1 h1 hE1 fun i2 S2 io2 H2 v2 _ e2 rs2 re2 rv2 h2 hE2 => by
      cases hx : gg o1 i2 S2 with
      | none => rw [hx] at h2; cases h2
      | some p =>
        obtain ⟨x, S3⟩ := p
        rw [hx] at h2
        refine ⟨io2, S2, o1, i2, x, S3, rs2, RV.mono e2 _ _ rv1, rv2, hx, fun io3 H3 v3 e3 rs3 rv3 => tG_bindS rs3 (re2.mono e3) h2 (hE2.mono e3) fun y S4 io4 H4 v4 _ e4 rs4 re4 rv4 h4 hE4 => ?_⟩
        cases hz : gp x y S4 with
        | none => rw [hz] at h4; cases h4
        | some p =>
          obtain ⟨z, S5⟩ := p
          rw [hz] at h4
          refine ⟨io4, S4, x, y, z, S5, rs4, RV.mono e4 _ _ rv3, rv4, hz, fun io5 H5 v5 e5 rs5 rv5 => ?_⟩
          cases hw : gs o1 i2 z S5 with
          | none =>
            have h5 : (match gs o1 i2 z S5 with | some S6 => some (Out.nx, env, S6) | none => none) = some (o, env', S') := h4
            rw [hw] at h5; cases h5
          | some S6 =>
            have h5 : (match gs o1 i2 z S5 with | some S6 => some (Out.nx, env, S6) | none => none) = some (o, env', S') := h4
            rw [hw] at h5
            cases h5
            exact ⟨io5, S5, o1, i2, z, _, rs5, RV.mono (((e2.trans e3).trans e4).trans e5) _ _ rv1, RV.mono ((e3.trans e4).trans e5) _ _ rv2, rv5, hw, fun io6 H6 e6 rs6 => hE4 io6 H6 σ (e5.trans e6) rs6 ((re4.mono e5).mono e6)⟩
theorem ds_expr (he : DE X W e fe) (hs : swapsWith e none pos.line X.env = pure false := by rfl) : DS X W (.Expr e pos) (sExpr fe) := ps_weak (ps_expr he hs) fun E σ H ⟨io, S, env, o, env', S', rs, re, hf, hE⟩ =>
  tG_bindS rs re hf hE fun d S1 io1 H1 v _ e1 rs1 re1 rv h1 hE1 => by
    cases h1
    exact hE1 io1 H1 σ Ext.refl rs1 re1
theorem ds_ret (he : DE X W e fe) : DS X W (.Return (some e) pos) (sRet fe) := ps_weak (ps_ret he) fun E σ H ⟨io, S, env, o, env', S', rs, re, hf, hE⟩ =>
  tG_bindS rs re hf hE fun d S1 io1 H1 v _ e1 rs1 re1 rv h1 hE1 => by
    cases h1
    exact hE1 io1 H1 v Ext.refl rs1 rv
theorem ds_retN : DS X W (.Return none pos) sRetN := ps_weak ps_retN fun E σ H ⟨io, S, env, o, env', S', rs, re, hf, hE⟩ => by
  cases hf
  exact hE io H .non Ext.refl rs (by simp [RV])
theorem ds_if {c : Expr} {p q : List Stmt} {gc : Ev → Sto → Ans Bool} (hc : DT X W c gc) (ha : DSs X W p f) (hb : DSs X W q g) : DS X W (.If c p q pos) (sIf gc f g) := ps_weak (ps_if hc ha hb) fun E σ H ⟨io, S, env, o, env', S', rs, re, hf, hE⟩ =>
  tG_bindS rs re hf hE fun d S1 io1 H1 v _ e1 rs1 re1 rv h1 hE1 => by
    cases rv
    cases d with
    | true => exact ⟨io1, S1, env, o, env', S', rs1, re1, h1, hE1⟩
    | false => exact ⟨io1, S1, env, o, env', S', rs1, re1, h1, hE1⟩
theorem ds_while (n : Nat) {c : Expr} {body : List Stmt} {gc : Ev → Sto → Ans Bool} (hp : PassesOwn (model X.prog X.w) X.A X.env X.xe) (hc : DT X W c gc) (hb : DSs X W body f) : DS X W (.While c body [] pos) (sWhile n gc f) := ps_weak (ps_while hp hc hb) fun E σ H ⟨io, S, env, o, env', S', rs, re, hf, hE⟩ => by
  refine ⟨fun m σ H => ∃ io S env, RS X.K io S H ∧ RE X.K io H env σ ∧ whileD gc f m env S = some (o, env', S') ∧ EndS X.K X.mg W io H o env' S' E, ⟨n, io, S, env, rs, re, hf, hE⟩, ?_⟩
  rintro m σ H ⟨io, S, env, rs, re, hf, hE⟩
  cases m with
  | zero => cases hf
  | succ m =>
    refine tG_bindS rs re hf hE fun d S1 io1 H1 v _ e1 rs1 re1 rv h1 hE1 => ?_
    cases rv
    cases d with
    | false =>
      cases h1
      exact hE1 io1 H1 σ Ext.refl rs1 re1
    | true =>
      rw [if_pos rfl]
      rw [if_pos rfl] at h1
      refine ⟨fun σ' H' => ∃ io S env, RS X.K io S H' ∧ RE X.K io H' env σ' ∧ whileD gc f m env S = some (o, env', S') ∧ EndS X.K X.mg W io H' o env' S' E, fun σ' H' q => ⟨m, Nat.lt_succ_self _, q⟩, ?_⟩
      cases hb : f env S1 with
      | none => rw [hb] at h1; cases h1
      | some p =>
        obtain ⟨o2, env2, S2⟩ := p
        rw [hb] at h1
        cases o2 with
        | nx => exact ⟨io1, S1, env, _, _, _, rs1, re1, hb, fun io2 H2 σ2 e2 rs2 re2 => ⟨io2, S2, env2, rs2, re2, h1, hE1.mono e2⟩⟩
        | ct => exact ⟨io1, S1, env, _, _, _, rs1, re1, hb, fun io2 H2 σ2 e2 rs2 re2 => ⟨io2, S2, env2, rs2, re2, h1, hE1.mono e2⟩⟩
        | bk => cases h1; exact ⟨io1, S1, env, _, _, _, rs1, re1, hb, hE1⟩
        | rt d => cases h1; exact ⟨io1, S1, env, _, _, _, rs1, re1, hb, hE1⟩
        | ex x => cases h1; exact ⟨io1, S1, env, _, _, _, rs1, re1, hb, hE1⟩
theorem ds_for {tg iter : Expr} {body : List Stmt} {fw : Ev → Sto → Ans Wk} {t : Tg} (hp : PassesOwn (model X.prog X.w) X.A X.env X.xe) (hc : X.calm = true) (hi : DI X W tg iter fw) (hg : PG X tg (tTg X.K t)) (hb : DSs X W body f) (hs : ∀ x, foldedSetIterable iter X.env x = pure x := by intro _; rfl) : DS X W (.For tg iter body [] pos) (sFor fw t f) := ps_weak (ps_for hp hc hi hg hb hs) fun E σ H ⟨io, S, env, o, env', S', rs, re, hf, hE⟩ => by
  refine tG_bindS rs re hf hE fun w S1 io1 H1 J _ e1 rs1 re1 ok h1 hE1 => ?_
  refine ⟨fun i m σ H => m = w.items.length - i ∧ ∃ io S env, Ext X.K io1 H1 io H ∧ RS X.K io S H ∧ RE X.K io H env σ ∧ forD w.ok t f (w.items.drop i) env S = some (o, env', S') ∧ EndS X.K X.mg W io H o env' S' E, ⟨_, rfl, io1, S1, env, Ext.refl, rs1, re1, by simpa using h1, hE1⟩, ?_⟩
  rintro i m σ H ⟨rfl, io, S, env, ex, rs, re, hf, hE⟩
  by_cases hi : i < w.items.length
  · rw [List.drop_eq_getElem_cons hi] at hf
    unfold forD at hf
    split at hf
    · rename_i hok
      obtain ⟨_, hgo⟩ := ok i io S H ex rs hok
      obtain ⟨hgo, hyl⟩ := hgo _ (List.getElem?_eq_getElem hi)
      refine .inr ⟨hgo, fun σ' H' => ∃ io S env, Ext X.K io1 H1 io H' ∧ RS X.K io S H' ∧ RE X.K io H' env σ' ∧ forD w.ok t f (w.items.drop (i + 1)) env S = some (o, env', S') ∧ EndS X.K X.mg W io H' o env' S' E, fun σ' H' q => ⟨_, by omega, rfl, q⟩, fun x H' hy => ?_⟩
      obtain ⟨io', ex', rs', rv⟩ := hyl x H' hy
      split at hf
      · cases hf
      · rename_i env1 hput
        refine ⟨io', env, _, env1, re.mono ex', rv, hput, fun σ2 re2 _ _ => ?_⟩
        cases hbo : f env1 S with
        | none => rw [hbo] at hf; cases hf
        | some p =>
          obtain ⟨o2, env2, S2⟩ := p
          rw [hbo] at hf
          cases o2 with
          | nx => exact ⟨io', S, env1, _, _, _, rs', re2, hbo, fun io2 H2 σ2 e2 rs2 re2 => ⟨io2, S2, env2, (ex.trans ex').trans e2, rs2, re2, hf, (hE.mono ex').mono e2⟩⟩
          | ct => exact ⟨io', S, env1, _, _, _, rs', re2, hbo, fun io2 H2 σ2 e2 rs2 re2 => ⟨io2, S2, env2, (ex.trans ex').trans e2, rs2, re2, hf, (hE.mono ex').mono e2⟩⟩
          | bk => cases hf; exact ⟨io', S, env1, _, _, _, rs', re2, hbo, hE.mono ex'⟩
          | rt d => cases hf; exact ⟨io', S, env1, _, _, _, rs', re2, hbo, hE.mono ex'⟩
          | ex x => cases hf; exact ⟨io', S, env1, _, _, _, rs', re2, hbo, hE.mono ex'⟩
    · cases hf
  · rw [List.drop_eq_nil_of_le (by omega)] at hf
    unfold forD at hf
    split at hf
    · rename_i hok
      cases hf
      exact .inl ⟨(ok i io _ H ex rs hok).1 (by omega), hE io H σ Ext.refl rs re⟩
    · cases hf
end
end DL
namespace DL
open PySem PySem.Spec PyProof.Rows L2 RT RZ

/-! ### what is walked -/
def wSeq (fe : Ev → Sto → Ans D) : Ev → Sto → Ans Wk := fun env S => bindR (fe env S) fun d S1 => match seqOf d S1 with
  | some ds => some (.ok ⟨fun S => seqOf d S = some ds, ds⟩, S1)
  | none => none
def rangeL (lo : Int) (n : Nat) : List D := (List.range n).map fun (k : Nat) => D.int (lo + k)
/-- an end that a range may have -/
def RgB (j : Int) : Prop := -(2 ^ 62) ≤ j ∧ j < 2 ^ 62
noncomputable instance (j : Int) : Decidable (RgB j) := Classical.propDecidable _
theorem RgB.of {j : Int} (h : j.natAbs ≤ 1000000000000) : RgB j := ⟨by omega, by omega⟩
noncomputable def wRange (fs : Ev → Sto → Ans (List D)) : Ev → Sto → Ans Wk := fun env S => bindR (fs env S) fun ds S1 => match ds with
  | [.int j] => if RgB j then some (.ok ⟨fun _ => True, rangeL 0 j.toNat⟩, S1) else none
  | [.int i, .int j] => if RgB i ∧ RgB j then some (.ok ⟨fun _ => True, rangeL i (j - i).toNat⟩, S1) else none
  | _ => none
def wRev (fe : Ev → Sto → Ans D) : Ev → Sto → Ans Wk := fun env S => bindR (fe env S) fun d S1 => match seqOf d S1 with
  | some ds => some (.ok ⟨fun S => seqOf d S = some ds, ds.reverse⟩, S1)
  | none => none
def wStr (fe : Ev → Sto → Ans D) : Ev → Sto → Ans Wk := fun env S => bindR (fe env S) fun d S1 => match d with
  | .str x => some (.ok ⟨fun _ => True, x.cps.toList.map fun c => D.str ⟨#[c]⟩⟩, S1)
  | _ => none
def zipD (xs ys : List D) : List D := (xs.zip ys).map fun p => D.tup [p.1, p.2]
def isTup : D → Bool
  | .tup _ => true
  | _ => false
def wZip (fs : Ev → Sto → Ans (List D)) : Ev → Sto → Ans Wk := fun env S => bindR (fs env S) fun ds S1 => match ds with
  | [a, b] => match seqOf a S1, seqOf b S1 with
    | some xs, some ys => if isTup a = isTup b then some (.ok ⟨fun S => seqOf a S = some xs ∧ seqOf b S = some ys, zipD xs ys⟩, S1) else none
    | _, _ => none
  | _ => none
def enumD (xs : List D) : List D := (xs.zipIdx).map fun p => D.tup [.int p.2, p.1]
def wEnum (fs : Ev → Sto → Ans (List D)) : Ev → Sto → Ans Wk := fun env S => bindR (fs env S) fun ds S1 => match ds with
  | [.ref n] => match seqOf (.ref n) S1 with
    | some xs => some (.ok ⟨fun S => seqOf (.ref n) S = some xs, enumD xs⟩, S1)
    | _ => none
  | _ => none
section
variable {K : PySem.W.Frag} {io : List Addr} {S : Sto} {H : Hp}
theorem seq_ref {n : Nat} {ds : List D} (h : seqOf (.ref n) S = some ds) : S[n]? = some (.lst ds) ∨ S[n]? = some (.rol ds) := by
  simp only [seqOf] at h
  split at h
  · cases h
    exact .inl (by assumption)
  · cases h
    exact .inr (by assumption)
  · cases h
theorem ItOk.list {a : Addr} {n : Nat} {ds : List D} (ha : io[n]? = some a) : ItOk K io H ⟨fun S => seqOf (.ref n) S = some ds, ds⟩ (Itl K a) := fun i io' S' H' ex rs ok => by
  obtain ⟨b, vs, e1, e2, e3, e4⟩ := rs.seq (seq_ref ok) (show RV K io' H' (.ref n) (.ref a) by unfold RV; exact ⟨a, ex.get ha, rfl⟩)
  cases e1
  refine ⟨fun hi => ⟨vs, e3, by rw [← e4.length]; exact hi⟩, fun x hx => ?_⟩
  obtain ⟨v, h1, h2⟩ := e4.get hx
  refine ⟨⟨vs, v, e3, h1⟩, fun w H2 hy => ?_⟩
  obtain ⟨rfl, hy⟩ := hy
  have := hy vs e3
  rw [h1] at this
  cases this
  exact ⟨io', Ext.refl, rs, h2⟩
theorem ItOk.tup {a : Addr} {vs : List V} {ds : List D} (ok : Sto → Prop) (ha : SqT K H a vs) (hd : RVs K io H ds vs) : ItOk K io H ⟨ok, ds⟩ (Itt K a) := fun i io' S' H' ex rs _ => by
  have e3 := ex.tup a vs ha
  have e4 := RVs.mono ex ds vs hd
  refine ⟨fun hi => ⟨vs, e3, by rw [← e4.length]; exact hi⟩, fun x hx => ?_⟩
  obtain ⟨v, h1, h2⟩ := e4.get hx
  refine ⟨⟨vs, v, e3, h1⟩, fun w H2 hy => ?_⟩
  obtain ⟨rfl, hy⟩ := hy
  have := hy vs e3
  rw [h1] at this
  cases this
  exact ⟨io', Ext.refl, rs, h2⟩
theorem rangeL_get {lo : Int} {n i : Nat} {x : D} (h : (rangeL lo n)[i]? = some x) : i < n ∧ x = .int (lo + i) := by
  unfold rangeL at h
  rw [List.getElem?_map] at h
  by_cases hi : i < n
  · rw [List.getElem?_range hi] at h
    cases h
    exact ⟨hi, rfl⟩
  · rw [List.getElem?_eq_none (by simpa using hi)] at h
    cases h
theorem rangeL_length {lo : Int} {n : Nat} : (rangeL lo n).length = n := by simp [rangeL]
theorem ItOk.range {lo : Int} {n : Nat} (ok : Sto → Prop) : ItOk K io H ⟨ok, rangeL lo n⟩ (Itr lo n) := fun i io' S' H' ex rs _ => by
  refine ⟨fun hi => by have h : n ≤ i := by simpa [rangeL] using hi
                       exact h, fun x hx => ?_⟩
  obtain ⟨hi, rfl⟩ := rangeL_get hx
  refine ⟨hi, fun w H2 hy => ?_⟩
  obtain ⟨rfl, rfl⟩ := hy
  exact ⟨io', Ext.refl, rs, by simp [RV]⟩
theorem ItOk.rev {a : Addr} {n : Nat} {ds : List D} (ha : io[n]? = some a) : ItOk K io H ⟨fun S => seqOf (.ref n) S = some ds, ds.reverse⟩ (Itv K a ds.length) := fun i io' S' H' ex rs ok => by
  have stp : (ds.reverse.length ≤ i → (Itv K a ds.length).stop i H') := fun hi => by
    have h : ds.length ≤ i := by simpa using hi
    exact h
  obtain ⟨b, vs, e1, e2, e3, e4⟩ := rs.seq (seq_ref ok) (show RV K io' H' (.ref n) (.ref a) by unfold RV; exact ⟨a, ex.get ha, rfl⟩)
  cases e1
  refine ⟨stp, fun x hx => ?_⟩
  have hi : i < ds.length := by simpa using (List.getElem?_eq_some_iff.mp hx).1
  have hx' : ds[ds.length - 1 - i]? = some x := by
    have hx0 : ds.reverse[i]? = some x := hx
    rw [List.getElem?_reverse hi] at hx0
    exact hx0
  obtain ⟨v, h1, h2⟩ := e4.get hx'
  refine ⟨⟨hi, vs, v, e3, h1⟩, fun w H2 hy => ?_⟩
  obtain ⟨rfl, hy⟩ := hy
  have := hy vs e3
  rw [h1] at this
  cases this
  exact ⟨io', Ext.refl, rs, h2⟩
theorem ItOk.revT {a : Addr} {vs : List V} {ds : List D} (ok : Sto → Prop) (ha : SqT K H a vs) (hd : RVs K io H ds vs) : ItOk K io H ⟨ok, ds.reverse⟩ (ItvT K a ds.length) := fun i io' S' H' ex rs _ => by
  have stp : (ds.reverse.length ≤ i → (ItvT K a ds.length).stop i H') := fun hi => by
    have h : ds.length ≤ i := by simpa using hi
    exact h
  have e3 := ex.tup a vs ha
  have e4 := RVs.mono ex ds vs hd
  refine ⟨stp, fun x hx => ?_⟩
  have hi : i < ds.length := by simpa using (List.getElem?_eq_some_iff.mp hx).1
  have hx' : ds[ds.length - 1 - i]? = some x := by
    have hx0 : ds.reverse[i]? = some x := hx
    rw [List.getElem?_reverse hi] at hx0
    exact hx0
  obtain ⟨v, h1, h2⟩ := e4.get hx'
  refine ⟨⟨hi, vs, v, e3, h1⟩, fun w H2 hy => ?_⟩
  obtain ⟨rfl, hy⟩ := hy
  have := hy vs e3
  rw [h1] at this
  cases this
  exact ⟨io', Ext.refl, rs, h2⟩
theorem ItOk.str {x : Str} (ok : Sto → Prop) : ItOk K io H ⟨ok, x.cps.toList.map fun c => D.str ⟨#[c]⟩⟩ (Its x) := fun i io' S' H' ex rs _ => by
  have stp : ((x.cps.toList.map fun c => D.str ⟨#[c]⟩).length ≤ i → (Its x).stop i H') := fun hi => by
    have h : x.cps.size ≤ i := by simpa using hi
    exact h
  refine ⟨stp, fun y hy => ?_⟩
  have hy0 : (x.cps.toList.map fun c => D.str ⟨#[c]⟩)[i]? = some y := hy
  rw [List.getElem?_map] at hy0
  cases hc : x.cps.toList[i]? with
  | none => rw [hc] at hy0; cases hy0
  | some c =>
    rw [hc] at hy0
    cases hy0
    have hi : i < x.cps.size := by simpa using (List.getElem?_eq_some_iff.mp hc).1
    refine ⟨hi, fun w H2 hy => ?_⟩
    obtain ⟨rfl, c', h1, rfl⟩ := hy
    have : c' = c := by
      have h2 : x.cps[i]? = some c := by simpa using hc
      rw [h1] at h2
      exact Option.some.inj h2
    subst this
    exact ⟨io', Ext.refl, rs, by simp [RV]⟩
theorem tup2 {io' : List Addr} {H' : Hp} {T : Addr} {a b : D} {x y : V} (hT : H' T = none) (r1 : RV K io' H' a x) (r2 : RV K io' H' b y) : RV K io' (upd H' T (.tup [x, y])) (.tup [a, b]) (.ref T) := by
  unfold RV
  exact ⟨T, _, rfl, SqT.of upd_same, RVs.cons (RV.mono (Ext.fresh hT) _ _ r1) (RVs.one (RV.mono (Ext.fresh hT) _ _ r2))⟩
theorem ItOk.enum {a : Addr} {n : Nat} {ds : List D} (ha : io[n]? = some a) : ItOk K io H ⟨fun S => seqOf (.ref n) S = some ds, enumD ds⟩ (Ite K a) := fun i io' S' H' ex rs ok => by
  obtain ⟨b, vs, e1, e2, e3, e4⟩ := rs.seq (seq_ref ok) (show RV K io' H' (.ref n) (.ref a) by unfold RV; exact ⟨a, ex.get ha, rfl⟩)
  cases e1
  refine ⟨fun hi => ⟨vs, e3, by rw [← e4.length]; simpa [enumD] using hi⟩, fun x hx => ?_⟩
  have hx0 : (enumD ds)[i]? = some x := hx
  unfold enumD at hx0
  rw [List.getElem?_map, List.getElem?_zipIdx] at hx0
  cases hd : ds[i]? with
  | none => rw [hd] at hx0; cases hx0
  | some d =>
    rw [hd] at hx0
    cases hx0
    obtain ⟨v, h1, h2⟩ := e4.get hd
    refine ⟨⟨vs, v, e3, h1⟩, fun w H2 hy => ?_⟩
    obtain ⟨T, x, rfl, hT, rfl, hy⟩ := hy
    have := hy vs e3
    rw [h1] at this
    cases this
    refine ⟨io', Ext.fresh hT, rs.tupNew hT, ?_⟩
    have := tup2 (K := K) (a := .int ((i : Nat) : Int)) (x := .int ((i : Nat) : Int)) hT (by simp [RV]) h2
    simpa using this
theorem zip_get {xs ys : List D} {i : Nat} {z : D} (h : (zipD xs ys)[i]? = some z) : ∃ x y, xs[i]? = some x ∧ ys[i]? = some y ∧ z = .tup [x, y] := by
  unfold zipD at h
  rw [List.getElem?_map] at h
  cases hz : (xs.zip ys)[i]? with
  | none => rw [hz] at h; cases h
  | some p =>
    rw [hz] at h
    cases h
    obtain ⟨h1, h2⟩ := List.getElem?_zip_eq_some.mp hz
    exact ⟨p.1, p.2, h1, h2, rfl⟩
theorem ItOk.zip {a b : Addr} {n m : Nat} {xs ys : List D} (ha : io[n]? = some a) (hb : io[m]? = some b) : ItOk K io H ⟨fun S => seqOf (.ref n) S = some xs ∧ seqOf (.ref m) S = some ys, zipD xs ys⟩ (Itz K a b) := fun i io' S' H' ex rs ok => by
  obtain ⟨_, vs, e1, e2, e3, e4⟩ := rs.seq (seq_ref ok.1) (show RV K io' H' (.ref n) (.ref a) by unfold RV; exact ⟨a, ex.get ha, rfl⟩)
  cases e1
  obtain ⟨_, ws, f1, f2, f3, f4⟩ := rs.seq (seq_ref ok.2) (show RV K io' H' (.ref m) (.ref b) by unfold RV; exact ⟨b, ex.get hb, rfl⟩)
  cases f1
  refine ⟨fun hi => ⟨vs, ws, e3, f3, by rw [← e4.length, ← f4.length]; simp [zipD] at hi; omega⟩, fun z hz => ?_⟩
  obtain ⟨x, y, h1, h2, rfl⟩ := zip_get hz
  obtain ⟨v, p1, p2⟩ := e4.get h1
  obtain ⟨w, q1, q2⟩ := f4.get h2
  refine ⟨⟨vs, ws, v, w, e3, f3, p1, q1⟩, fun u H2 hy => ?_⟩
  obtain ⟨T, x', y', rfl, hT, rfl, k1, k2⟩ := hy
  have := k1 vs e3
  rw [p1] at this
  cases this
  have := k2 ws f3
  rw [q1] at this
  cases this
  exact ⟨io', Ext.fresh hT, rs.tupNew hT, tup2 hT p2 q2⟩
theorem ItOk.zipT {a b : Addr} {vs ws : List V} {xs ys : List D} (ok : Sto → Prop) (ha : SqT K H a vs) (hd : RVs K io H xs vs) (hb : SqT K H b ws) (hd2 : RVs K io H ys ws) : ItOk K io H ⟨ok, zipD xs ys⟩ (ItzT K a b) := fun i io' S' H' ex rs _ => by
  have e3 := ex.tup a vs ha
  have e4 := RVs.mono ex _ vs hd
  have f3 := ex.tup b ws hb
  have f4 := RVs.mono ex _ ws hd2
  refine ⟨fun hi => ⟨vs, ws, e3, f3, by rw [← e4.length, ← f4.length]; simp [zipD] at hi; omega⟩, fun z hz => ?_⟩
  obtain ⟨x, y, h1, h2, rfl⟩ := zip_get hz
  obtain ⟨v, p1, p2⟩ := e4.get h1
  obtain ⟨w, q1, q2⟩ := f4.get h2
  refine ⟨⟨vs, ws, v, w, e3, f3, p1, q1⟩, fun u H2 hy => ?_⟩
  obtain ⟨T, x', y', rfl, hT, rfl, k1, k2⟩ := hy
  have := k1 vs e3
  rw [p1] at this
  cases this
  have := k2 ws f3
  rw [q1] at this
  cases this
  exact ⟨io', Ext.fresh hT, rs.tupNew hT, tup2 hT p2 q2⟩
end
section
variable {X : Cx} {W : XK} {e e2 tg : Expr} {es : List Expr} {fe : Ev → Sto → Ans D} {fs : Ev → Sto → Ans (List D)} {pos p tpos : Pos} {elts : List Expr} {kk : Nat}
/-- a list or a tuple -/
theorem di_seq (he : DE X W e fe) : DI X W tg e (wSeq fe) := pi_weak (pi_or (pi_list he) (pi_tup he)) fun σ H R ⟨io, S, env, r, S', rs, re, hf, hE⟩ => by
  unfold wSeq at hf
  cases hd : fe env S with
  | none => rw [hd] at hf; cases hf
  | some q =>
    obtain ⟨ra, S1⟩ := q
    cases ra with
    | ex x =>
      rw [hd] at hf
      cases hf
      exact .inl ⟨io, S, env, _, _, rs, re, hd, hE⟩
    | ok d =>
      by_cases ht : isTup d = true
      · refine .inr (tG_bind2 rs re hf hE fun d' S1' io1 H1 v hd' e1 rs1 re1 rv1 h1 hE1 => ?_)
        rw [hd] at hd'
        cases hd'
        cases d <;> first | cases ht | skip
        rename_i ds
        unfold RV at rv1
        obtain ⟨a, vs, rfl, e2, e3⟩ := rv1
        cases h1
        exact ⟨a, rfl, ⟨vs, e2⟩, hE1.now rs1 (ItOk.tup _ e2 e3)⟩
      · refine .inl (tG_bind2 rs re hf hE fun d' S1' io1 H1 v hd' e1 rs1 re1 rv1 h1 hE1 => ?_)
        rw [hd] at hd'
        cases hd'
        cases hs : seqOf d S1 with
        | none => rw [hs] at h1; cases h1
        | some ds =>
          rw [hs] at h1
          cases h1
          cases d with
          | ref n =>
            obtain ⟨a, vs, rfl, e2, e3, e4⟩ := rs1.seq (seq_ref hs) rv1
            exact ⟨a, rfl, ⟨vs, e3⟩, hE1.now rs1 (ItOk.list e2)⟩
          | tup _ => exact absurd rfl ht
          | non => cases hs
          | bl _ => cases hs
          | int _ => cases hs
          | str _ => cases hs
theorem RVs.int1 {K : PySem.W.Frag} {io : List Addr} {H : Hp} {j : Int} {vs : List V} (h : RVs K io H [.int j] vs) : vs = [.int j] := by
  simp only [RVs, RV] at h
  obtain ⟨v, r, rfl, rfl, rfl⟩ := h
  rfl
theorem RVs.int2 {K : PySem.W.Frag} {io : List Addr} {H : Hp} {i j : Int} {vs : List V} (h : RVs K io H [.int i, .int j] vs) : vs = [.int i, .int j] := by
  simp only [RVs, RV] at h
  obtain ⟨v, r, rfl, rfl, w, r2, rfl, rfl, rfl⟩ := h
  rfl
theorem one_of {ds : List D} (h : ds.length = 1) : ∃ d, ds = [d] := by
  match ds, h with
  | [d], _ => exact ⟨d, rfl⟩
theorem two_of {ds : List D} (h : ds.length = 2) : ∃ d e, ds = [d, e] := by
  match ds, h with
  | [d, e], _ => exact ⟨d, e, rfl⟩
theorem di_range1 (hg : Gl X "range") (hm : X.mg "range" = none) (ha : DA X W [e] fs)
    (hf1 : ∀ env S ds S', fs env S = some (.ok ds, S') → ds.length = 1) (hs : starEach [e] X.env = [(false, eval e X.env)] := by rfl) : DI X W tg (.Call (.Name "range" p) [e] [] pos) (wRange fs) :=
  pi_weak (pi_range1 hg hm ha hs) fun σ H R ⟨io, S, env, r, S', rs, re, hf, hE⟩ => tG_bind2 rs re hf hE fun ds S1 io1 H1 v hd e1 rs1 re1 rv1 h1 hE1 => by
    obtain ⟨d, rfl⟩ := one_of (hf1 _ _ _ _ hd)
    cases d with
    | int j =>
      simp only at h1
      split at h1
      · rename_i hb
        cases h1
        exact ⟨j, RVs.int1 rv1, hb.1, hb.2, hE1.now rs1 (ItOk.range _)⟩
      · cases h1
    | _ => cases h1
theorem di_range2 (hg : Gl X "range") (hm : X.mg "range" = none) (ha : DA X W [e, e2] fs) (hf1 : ∀ env S ds S', fs env S = some (.ok ds, S') → ds.length = 2) (hs : starEach [e, e2] X.env = [(false, eval e X.env), (false, eval e2 X.env)] := by rfl) (hs2 : starEach [e2] X.env = [(false, eval e2 X.env)] := by rfl) : DI X W tg (.Call (.Name "range" p) [e, e2] [] pos) (wRange fs) :=
  pi_weak (pi_range2 hg hm ha hs hs2) fun σ H R ⟨io, S, env, r, S', rs, re, hf, hE⟩ => tG_bind2 rs re hf hE fun ds S1 io1 H1 v hd e1 rs1 re1 rv1 h1 hE1 => by
    obtain ⟨d, d', rfl⟩ := two_of (hf1 _ _ _ _ hd)
    cases d with
    | int i =>
      cases d' with
      | int j =>
        simp only at h1
        split at h1
        · rename_i hb
          cases h1
          exact ⟨i, j, RVs.int2 rv1, ⟨hb.1.1, hb.1.2, hb.2.1, hb.2.2⟩, hE1.now rs1 (ItOk.range _)⟩
        · cases h1
      | _ => cases h1
    | _ => cases h1
theorem di_rev (hg : Gl X "reversed") (hm : X.mg "reversed" = none) (he : DE X W e fe) (hs : starEach [e] X.env = (false, eval e X.env) :: starEach [] X.env := by rfl) : DI X W tg (.Call (.Name "reversed" p) [e] [] pos) (wRev fe) :=
  pi_weak (pi_revA hg hm he hs) fun σ H R ⟨io, S, env, r, S', rs, re, hf, hE⟩ => tG_bind rs re hf hE fun d S1 io1 H1 v e1 rs1 re1 rv1 h1 hE1 => by
    cases hs : seqOf d S1 with
    | none => rw [hs] at h1; cases h1
    | some ds =>
      rw [hs] at h1
      cases h1
      cases d with
      | ref n =>
        obtain ⟨a, vs, rfl, e2, e3, e4⟩ := rs1.seq (seq_ref hs) rv1
        exact ⟨a, vs, rfl, .inl ⟨e3, by rw [← e4.length]; exact hE1.now rs1 (ItOk.rev e2)⟩⟩
      | tup es =>
        cases hs
        unfold RV at rv1
        obtain ⟨a, vs, rfl, e2, e3⟩ := rv1
        exact ⟨a, vs, rfl, .inr ⟨e2, by rw [← e3.length]; exact hE1.now rs1 (ItOk.revT _ e2 e3)⟩⟩
      | non => cases hs
      | bl _ => cases hs
      | int _ => cases hs
      | str _ => cases hs
theorem di_str (he : DE X W e fe) : DI X W tg e (wStr fe) :=
  pi_weak (pi_str he) fun σ H R ⟨io, S, env, r, S', rs, re, hf, hE⟩ => tG_bind rs re hf hE fun d S1 io1 H1 v e1 rs1 re1 rv1 h1 hE1 => by
    cases d <;> first | cases h1 | skip
    unfold RV at rv1
    subst rv1
    exact ⟨_, rfl, hE1.now rs1 (ItOk.str _)⟩
theorem di_enum (hg : Gl X "enumerate") (hm : X.mg "enumerate" = none) (ha : DA X W [e] fs) (hf1 : ∀ env S ds S', fs env S = some (.ok ds, S') → ds.length = 1) (hs : starEach [e] X.env = [(false, eval e X.env)] := by rfl) : DI X W (.Tuple elts kk tpos) (.Call (.Name "enumerate" p) [e] [] pos) (wEnum fs) :=
  pi_weak (pi_enum hg hm ha hs) fun σ H R ⟨io, S, env, r, S', rs, re, hf, hE⟩ => tG_bind2 rs re hf hE fun ds S1 io1 H1 v hd e1 rs1 re1 rv1 h1 hE1 => by
    obtain ⟨d, rfl⟩ := one_of (hf1 _ _ _ _ hd)
    cases d with
    | ref n =>
      cases hs : seqOf (.ref n) S1 with
      | none => simp only [hs] at h1; cases h1
      | some xs =>
        simp only [hs] at h1
        cases h1
        unfold RVs at rv1
        obtain ⟨w, r, rfl, rv2, rv3⟩ := rv1
        unfold RVs at rv3
        subst rv3
        obtain ⟨a, vs, rfl, e2, e3, e4⟩ := rs1.seq (seq_ref hs) rv2
        exact ⟨a, vs, rfl, e3, hE1.now rs1 (ItOk.enum e2)⟩
    | _ => cases h1
theorem di_zip (hg : Gl X "zip") (hm : X.mg "zip" = none) (ha : DA X W [e, e2] fs) (hf1 : ∀ env S ds S', fs env S = some (.ok ds, S') → ds.length = 2) (hs : starEach [e, e2] X.env = (false, eval e X.env) :: starEach [e2] X.env := by rfl) (hpl : (backTo pos (starEach [e2] X.env)).any (·.1) = false := by rfl) : DI X W (.Tuple elts kk tpos) (.Call (.Name "zip" p) [e, e2] [] pos) (wZip fs) :=
  pi_weak (pi_zipA hg hm ha hs hpl) fun σ H R ⟨io, S, env, r, S', rs, re, hf, hE⟩ => tG_bind2 rs re hf hE fun ds S1 io1 H1 v hd e1 rs1 re1 rv1 h1 hE1 => by
    obtain ⟨x, y, rfl⟩ := two_of (hf1 _ _ _ _ hd)
    simp only at h1
    split at h1
    · rename_i xs ys hx hy
      split at h1
      · rename_i ht
        cases h1
        unfold RVs at rv1
        obtain ⟨w, r, rfl, rv2, rv3⟩ := rv1
        unfold RVs at rv3
        obtain ⟨w2, r2, rfl, rv4, rv5⟩ := rv3
        unfold RVs at rv5
        subst rv5
        cases x with
        | ref n =>
          cases y with
          | ref m =>
            obtain ⟨a, vs, rfl, e2, e3, e4⟩ := rs1.seq (seq_ref hx) rv2
            obtain ⟨b, ws, rfl, f2, f3, f4⟩ := rs1.seq (seq_ref hy) rv4
            exact ⟨a, b, vs, ws, rfl, .inl ⟨e3, f3, hE1.now rs1 (ItOk.zip e2 f2)⟩⟩
          | tup _ => cases ht
          | _ => cases hy
        | tup es =>
          cases y with
          | tup _ =>
            cases hx
            cases hy
            unfold RV at rv2 rv4
            obtain ⟨a, vs, rfl, e2, e3⟩ := rv2
            obtain ⟨b, ws, rfl, f2, f3⟩ := rv4
            exact ⟨a, b, vs, ws, rfl, .inr ⟨e2, f2, hE1.now rs1 (ItOk.zipT _ e2 e3 f2 f3)⟩⟩
          | ref _ => cases ht
          | _ => cases hy
        | _ => cases hx
      · cases h1
    · cases h1
theorem len_nil : ∀ env S ds S', dNil env S = some (.ok ds, S') → ds.length = 0 := fun _ _ _ _ h => by
  cases h
  rfl
theorem bindR_ok {α β : Type} {x : Ans α} {k : α → Sto → Ans β} {b : β} {S' : Sto} (h : bindR x k = some (.ok b, S')) : ∃ a S, x = some (.ok a, S) ∧ k a S = some (.ok b, S') := by
  unfold bindR at h
  split at h
  · cases h
  · cases h
  · exact ⟨_, _, rfl, h⟩
theorem len_cons {n : Nat} (h : ∀ env S ds S', fs env S = some (.ok ds, S') → ds.length = n) : ∀ env S ds S', dCons fe fs env S = some (.ok ds, S') → ds.length = n + 1 := fun env S ds S' q => by
  obtain ⟨a, S1, _, q⟩ := bindR_ok q
  obtain ⟨b, S2, q1, q⟩ := bindR_ok q
  cases q
  simp [h _ _ _ _ q1]
end
end DL
namespace DL
open PySem PySem.Spec PyProof.Rows L2 RT RZ

/-! ### list comprehensions -/
def wipeE (env : Ev) : List Nat → Ev
  | [] => env
  | v :: vs => (wipeE env vs).set v none
theorem wipeE_len (env : Ev) : ∀ vs : List Nat, (wipeE env vs).length = env.length
  | [] => rfl
  | v :: vs => by
    unfold wipeE
    rw [List.length_set, wipeE_len env vs]
theorem RE.wipe {K : PySem.W.Frag} {io : List Addr} {H : Hp} {env : Ev} {σ : L2.St} (h : RE K io H env σ) : ∀ vs : List Nat, RE K io H (wipeE env vs) (wipe σ vs)
  | [] => h
  | v :: vs => by
    have q := RE.wipe h vs
    refine ⟨by simp [wipeE, L2.wipe, q.len], fun i d e => ?_⟩
    unfold wipeE at e
    unfold L2.wipe
    by_cases hi : v = i
    · subst hi
      by_cases hv : v < (wipeE env vs).length
      · rw [List.getElem?_set_self hv] at e
        cases e
      · rw [List.getElem?_eq_none (by simpa using hv)] at e
        cases e
    · rw [List.getElem?_set_ne hi] at e ⊢
      exact q.get i d e
theorem wipe_at (σ : L2.St) (i : Nat) : ∀ vs : List Nat, (wipe σ vs)[i]? = if i ∈ vs then (if i < σ.length then some none else none) else σ[i]?
  | [] => by simp [L2.wipe]
  | v :: vs => by
    unfold L2.wipe
    by_cases hv : v = i
    · subst hv
      rw [if_pos (List.mem_cons_self)]
      by_cases hl : v < σ.length
      · rw [List.getElem?_set_self (by rw [wipe_length]; exact hl), if_pos hl]
      · rw [List.getElem?_eq_none (by rw [List.length_set, wipe_length]; omega), if_neg hl]
    · rw [List.getElem?_set_ne hv, wipe_at σ i vs]
      have : i ∈ v :: vs ↔ i ∈ vs := by
        simp only [List.mem_cons]
        exact ⟨fun h => h.elim (fun z => absurd z.symm hv) id, .inr⟩
      simp only [this]
theorem wipe_same {σ σ' : L2.St} {vs : List Nat} (f : ∀ j, j ∉ vs → σ'[j]? = (wipe σ vs)[j]?) (l : σ'.length = (wipe σ vs).length) : wipe σ' vs = wipe σ vs := by
  apply List.ext_getElem?
  intro i
  rw [wipe_at σ' i vs]
  by_cases hi : i ∈ vs
  · rw [if_pos hi, wipe_at σ i vs, if_pos hi, l, wipe_length]
  · rw [if_neg hi, f i hi]
open Classical in
noncomputable def lcD (ok : Sto → Prop) (t : Tg) (gt : Ev → Sto → Ans Bool) (fe : Ev → Sto → Ans D) (env : Ev) (n : Nat) : List D → Sto → Option Sto
  | [], S => if ok S then some S else none
  | x :: xs, S => if ok S then match t.put x env with
      | none => none
      | some env1 => match gt env1 S with
        | some (.ok true, S1) => match fe env1 S1 with
          | some (.ok y, S2) => match S2[n]? with
            | some (.lst acc) => if acc.length < sizeLine then lcD ok t gt fe env n xs (S2.set n (.lst (acc ++ [y]))) else none
            | _ => none
          | _ => none
        | some (.ok false, S1) => lcD ok t gt fe env n xs S1
        | _ => none
    else none
noncomputable def dLc (fw : Ev → Sto → Ans Wk) (t : Tg) (gt : Ev → Sto → Ans Bool) (fe : Ev → Sto → Ans D) (vs : List Nat) : Ev → Sto → Ans D := fun env S => bindR (fw env S) fun w S1 =>
  match lcD w.ok t gt fe (wipeE env vs) S1.length w.items (S1 ++ [.lst []]) with
  | some S2 => some (.ok (.ref S1.length), S2)
  | none => none
def dTrue : Ev → Sto → Ans Bool := fun _ S => some (.ok true, S)
section
variable {X : Cx} {W : XK}
theorem pts_weak {ifs : List Expr} {t t' : TT} (h : PTs X ifs t) (w : ∀ σ H Q, t' σ H Q → t σ H Q) : PTs X ifs t' := ⟨fun pins s σ H Q I q => h.run pins s σ H Q I (w σ H Q q)⟩
theorem dts_nil : PTs X [] (tMT X.K X.mg W dTrue) := pts_weak pts_nil fun σ H Q ⟨io, S, env, r, S', rs, re, hf, hE⟩ => by
  cases hf
  exact hE.now rs rfl
theorem dts_one {c : Expr} {gt : Ev → Sto → Ans Bool} (h : DT X W c gt) : PTs X [c] (tMT X.K X.mg W gt) := pts_one h
end
theorem lc_read {K : PySem.W.Frag} {mg : Str → Option Value} {W : XK} {fw : Ev → Sto → Ans Wk} {t : Tg} {gt : Ev → Sto → Ans Bool} {fe : Ev → Sto → Ans D} {vs : List Nat} (hsub : ∀ j ∈ t.slots, j ∈ vs) {σ : L2.St} {H : Hp} {Q : VK} (h : tM K mg W (dLc fw t gt fe vs) σ H Q) :
    tLc (tIM K mg W fw) (tTg K t) (tMT K mg E0 gt) (tM K mg E0 fe) vs σ H Q := by
  obtain ⟨io, S, env, r, S', rs, re, hf, hE⟩ := h
  refine tG_bind rs re hf hE fun w S1 io1 H1 J e1 rs1 re1 ok h1 hE1 => fun D hD => ?_
  cases hl : lcD w.ok t gt fe (wipeE env vs) S1.length w.items (S1 ++ [.lst []]) with
  | none => rw [hl] at h1; cases h1
  | some S2 =>
    rw [hl] at h1
    cases h1
    have rs0 := rs1.lstNew hD RVs.nil
    have ex0 : Ext K io1 H1 (io1 ++ [D]) (upd H1 D (.lst [])) := Ext.new hD
    have at0 : (io1 ++ [D])[S1.length]? = some D := rs1.lastNew
    refine ⟨fun i m H => m = w.items.length - i ∧ ∃ io S, Ext K (io1 ++ [D]) (upd H1 D (.lst [])) io H ∧ RS K io S H ∧ lcD w.ok t gt fe (wipeE env vs) S1.length (w.items.drop i) S = some S', ⟨_, rfl, _, _, Ext.refl, rs0, by simpa using hl⟩, ?_⟩
    rintro i m H ⟨rfl, io, S, ex, rs, hf⟩
    have hat : io[S1.length]? = some D := ex.get at0
    by_cases hi : i < w.items.length
    · rw [List.drop_eq_getElem_cons hi] at hf
      unfold lcD at hf
      split at hf
      · rename_i hok
        obtain ⟨_, hgo⟩ := ok i io S H (ex0.trans ex) rs hok
        obtain ⟨hgo, hyl⟩ := hgo _ (List.getElem?_eq_getElem hi)
        refine .inr ⟨hgo, fun H' => ∃ io S, Ext K (io1 ++ [D]) (upd H1 D (.lst [])) io H' ∧ RS K io S H' ∧ lcD w.ok t gt fe (wipeE env vs) S1.length (w.items.drop (i + 1)) S = some S', fun H' q => ⟨_, by omega, rfl, q⟩, fun x H' hy => ?_⟩
        obtain ⟨io', ex', rs', rv⟩ := hyl x H' hy
        have reW : RE K io' H' (wipeE env vs) (wipe σ vs) := ((re1.mono ex0).mono (ex.trans ex')).wipe vs
        split at hf
        · cases hf
        · rename_i env1 hput
          refine ⟨io', _, _, env1, reW, rv, hput, fun σ2 re2 f2 l2 => ⟨wipe_same (fun j hj => f2 j fun z => hj (hsub j z)) l2, ?_⟩⟩
          split at hf
          · rename_i Sa hg
            refine ⟨io', S, env1, .ok true, Sa, rs', re2, hg, fun io3 H3 b e3 rs3 eb => ?_⟩
            cases eb
            rw [if_pos rfl]
            split at hf
            · rename_i y Sb he
              refine ⟨io3, Sa, env1, .ok y, Sb, rs3, re2.mono e3, he, fun io4 H4 v e4 rs4 rv4 => ?_⟩
              split at hf
              · rename_i acc hacc
                split at hf
                · rename_i hsz
                  have hat4 : io4[S1.length]? = some D := e4.get (e3.get (ex'.get hat))
                  have hD4 := rs4.obj _ _ _ hacc hat4
                  obtain ⟨ws, w1, w2⟩ := hD4
                  obtain ⟨rs5, ex5⟩ := rs4.write hacc hat4 (w2.append (RVs.one rv4))
                  exact ⟨ws, w1, by rw [← w2.length]; exact hsz, io4, _, (((ex.trans ex').trans e3).trans e4).trans ex5, rs5, hf⟩
                · cases hf
              · cases hf
            · cases hf
          · rename_i Sa hg
            refine ⟨io', S, env1, .ok false, Sa, rs', re2, hg, fun io3 H3 b e3 rs3 eb => ?_⟩
            cases eb
            rw [if_neg Bool.false_ne_true]
            exact ⟨io3, Sa, (ex.trans ex').trans e3, rs3, hf⟩
          · cases hf
      · cases hf
    · rw [List.drop_eq_nil_of_le (by omega)] at hf
      unfold lcD at hf
      split at hf
      · rename_i hok
        cases hf
        refine .inl ⟨(ok i io _ H (ex0.trans ex) rs hok).1 (by omega), hE1 io H (.ref D) (ex0.trans ex) rs ?_⟩
        unfold RV
        exact ⟨D, hat, rfl⟩
      · cases hf
section
variable {X : Cx} {W : XK} {elt tg iter : Expr} {ifs : List Expr} {scope : Scope} {own : List (Str × Nat)} {pos : Pos} {fw : Ev → Sto → Ans Wk} {t : Tg} {gt : Ev → Sto → Ans Bool} {fe : Ev → Sto → Ans D}
theorem d_lc (hc : X.calm = true) (hN : X.N.Nodup) (hi : DI X W tg iter fw) (ok : BlkOk X.N X.env.scope scope own)
    (hg : ∀ (s : Shared) (H : Hp) (C : Addr) (cl : List (Str × Addr)) (fp : List Addr), PG (X.blk s H scope (compEnvC scope cl C X.env) fp) tg (tTg X.K t))
    (ht : ∀ (s : Shared) (H : Hp) (C : Addr) (cl : List (Str × Addr)) (fp : List Addr), PTs (X.blk s H scope (compEnvC scope cl C X.env) fp) ifs (tMT X.K X.mg E0 gt))
    (he : ∀ (s : Shared) (H : Hp) (C : Addr) (cl : List (Str × Addr)) (fp : List Addr), DE (X.blk s H scope (compEnvC scope cl C X.env) fp) E0 elt fe) (hsub : ∀ j ∈ t.slots, j ∈ own.map (·.2)) (hs : ∀ x, foldedSetIterable iter X.env x = pure x := by intro _; rfl) :
    DE X W (.ListComp elt [⟨tg, iter, ifs, 0⟩] scope pos) (dLc fw t gt fe (own.map (·.2))) := pe_weak (pe_lc hc hN hi ok hg ht he hs) fun _ _ _ h => lc_read hsub h
theorem ds_setLc {i : Nat} {y : Str} {py spos : Pos} (hc : X.calm = true) (hN : X.N.Nodup) (hy : X.N[i]? = some y) (hyl : X.env.scope.names.lookup y = some .local)
    (hsw : swapsWith (.ListComp elt [⟨tg, iter, ifs, 0⟩] scope pos) (some (.Name y py)) spos.line X.env = pure true) (hi : DI X W tg iter fw) (ok : BlkOk X.N X.env.scope scope own)
    (hg : ∀ (s : Shared) (H : Hp) (C : Addr) (cl : List (Str × Addr)) (fp : List Addr), PG (X.blk s H scope (compEnvC scope cl C X.env) fp) tg (tTg X.K t))
    (ht : ∀ (s : Shared) (H : Hp) (C : Addr) (cl : List (Str × Addr)) (fp : List Addr), PTs (X.blk s H scope (compEnvC scope cl C X.env) fp) ifs (tMT X.K X.mg E0 gt))
    (he : ∀ (s : Shared) (H : Hp) (C : Addr) (cl : List (Str × Addr)) (fp : List Addr), DE (X.blk s H scope (compEnvC scope cl C X.env) fp) E0 elt fe) (hsub : ∀ j ∈ t.slots, j ∈ own.map (·.2)) (hs : ∀ x, foldedSetIterable iter X.env x = pure x := by intro _; rfl) :
    DS X W (.Assign [.Name y py] (.ListComp elt [⟨tg, iter, ifs, 0⟩] scope pos) spos) (sAsg (.nm i) (dLc fw t gt fe (own.map (·.2)))) :=
  ps_weak (ps_setLc hc hN hy hyl hsw hi ok hg ht he hs) fun E σ H ⟨io, S, env, o, env', S', rs, re, hf, hE⟩ => lc_read hsub (tG_bindS rs re hf hE fun d S1 io1 H1 v _ e1 rs1 re1 rv h1 hE1 => by
    simp only [Tg.put] at h1
    cases h1
    exact hE1 io1 H1 _ Ext.refl rs1 (re1.set i rv))
end

/-! ### defs and their calls -/
abbrev Mir := List D → Sto → Ans D
def spM (K : PySem.W.Frag) (mg : Str → Option Value) (f : Mir) : Sp := fun vs H Q E => ∃ io S ds r S', RS K io S H ∧ RVs K io H ds vs ∧ f ds S = some (r, S') ∧ EndG K mg E (RV K) io H r S' Q
def runB (n m : Nat) (fb : Ev → Sto → AnsS) : Mir := fun ds S => if ds.length = n then match fb (ds.map some ++ List.replicate (m - n) none) S with
    | some (.nx, _, S') => some (.ok .non, S')
    | some (.rt d, _, S') => some (.ok d, S')
    | some (.ex e, _, S') => some (.ex e, S')
    | _ => none
  else none
def dCall (f : Mir) (fs : Ev → Sto → Ans (List D)) : Ev → Sto → Ans D := fun env S => bindR (fs env S) fun ds S1 => f ds S1
theorem RE.start {K : PySem.W.Frag} {io : List Addr} {H : Hp} : ∀ {ds : List D} {vs : List V}, RVs K io H ds vs → ∀ k : Nat, RE K io H (ds.map some ++ List.replicate k none) (vs.map some ++ List.replicate k none) := fun {ds vs} h k => by
  refine ⟨by simp [h.length], fun i d e => ?_⟩
  by_cases hi : i < ds.length
  · rw [List.getElem?_append_left (by simpa using hi), List.getElem?_map] at e
    cases hd : ds[i]? with
    | none => rw [hd] at e; cases e
    | some d' =>
      rw [hd] at e
      cases e
      obtain ⟨v, e1, e2⟩ := h.get hd
      refine ⟨v, ?_, e2⟩
      rw [List.getElem?_append_left (by rw [List.length_map, ← h.length]; exact hi), List.getElem?_map, e1]
      rfl
  · rw [List.getElem?_append_right (by simpa using hi), List.getElem?_replicate] at e
    split at e <;> cases e
section
variable {P : Program} {w : World} {K : PySem.W.Frag} {mg : Str → Option Value} {base : Heap}
/-- THE RULE of a def: by its body -/
theorem fn_body {x qual : Str} {st : Stmt} {f : Addr} {fd : FuncData} {N ps : List Str} {k : Nat} {fb : Ev → Sto → AnsS} (F : Fun K x qual st f fd) (S : FnScope N ps (defScope st))
    (hb : ∀ (cdv : Value) (A : Around) (outer : List Env) (s : Shared) (H : Hp) (E : XK), Room k (A.deeper (envOfC qual (defScope st) s.heap.objs.size f cdv)) → DSs (cxOf (L2.CX P w) P w K mg base N qual (defScope st) f cdv A outer s H E) E (defBody st) fb) :
    FnOk P w K mg base (L2.CX P w) (k + 1) f fd ps (spM K mg (runB ps.length N.length fb)) := by
  refine F.okX S (fun vs H Q E h => ?_) (fun cdv A outer s H vs Q E hr h => ⟨_, hb cdv A outer s H E hr, ?_⟩)
  · obtain ⟨io, S, ds, r, S', rs, rv, hf, hE⟩ := h
    unfold runB at hf
    split at hf
    · rename_i hl
      rw [← hl, rv.length]
    · cases hf
  · obtain ⟨io, S0, ds, r, S', rs, rv, hf, hE⟩ := h
    unfold runB at hf
    split at hf
    · rename_i hl
      have re : RE K io H (ds.map some ++ List.replicate (N.length - ps.length) none) (start N vs) := by
        unfold L2.start
        rw [← rv.length, hl]
        exact RE.start rv _
      cases hb : fb (ds.map some ++ List.replicate (N.length - ps.length) none) S0 with
      | none => rw [hb] at hf; cases hf
      | some q =>
        obtain ⟨o, env', S1⟩ := q
        rw [hb] at hf
        cases o with
        | nx => cases hf; exact ⟨io, S0, _, .nx, env', _, rs, re, hb, fun io' H' σ' e rs' _ => hE io' H' .non e rs' (by simp [RV])⟩
        | rt d => cases hf; exact ⟨io, S0, _, .rt d, env', _, rs, re, hb, fun io' H' v e rs' rv => hE io' H' v e rs' rv⟩
        | ex x => cases hf; exact ⟨io, S0, _, .ex x, env', _, rs, re, hb, hE⟩
        | bk => cases hf
        | ct => cases hf
    · cases hf
/-- a promise that says less: each end that c tells, f tells too, but for what lies behind in the store -/
def D.cl (n : Nat) : D → Prop
  | .ref m => m < n
  | .tup l => ∀ d ∈ l, D.cl n d
  | _ => True
end
section
variable {X : Cx} {W : XK} {f : Addr} {fd : FuncData} {ps : List Str} {k : Nat} {m : Mir} {x : Str} {p pos : Pos} {e : Expr} {es : List Expr} {fs : Ev → Sto → Ans (List D)}
theorem d_call {CX' : CXT} (F : FnOk X.prog X.w X.K X.mg X.base CX' k f fd ps (spM X.K X.mg m)) (hr : Room k X.A) (hg : Gl X x) (hm : X.mg x = some (.ref f)) (hk : PySem.W.keepIn X.K (.ref f) = true) (hb : Binds X.K fd ps []) (hx : Passes CX' X W)
    (ha : DA X W (e :: es) fs) (hdb : (x == ("__debug__" : Str)) = false := by decide) (he : starEach (e :: es) X.env = (false, eval e X.env) :: starEach es X.env := by rfl) (hpl : (backTo pos (starEach es X.env)).any (·.1) = false := by rfl) :
    DE X W (.Call (.Name x p) (e :: es) [] pos) (dCall m fs) := pe_weak (pe_call F hr hg hm hk hb .nil hx ha hdb he hpl) fun σ H Q ⟨io, S, env, r, S', rs, re, hf, hE⟩ =>
  tG_bind rs re hf hE fun ds S1 io1 H1 v e1 rs1 re1 rv1 h1 hE1 => ⟨io1, S1, ds, r, S', rs1, by rw [List.append_nil]; exact rv1, h1, hE1⟩
theorem d_call0 {CX' : CXT} (F : FnOk X.prog X.w X.K X.mg X.base CX' k f fd ps (spM X.K X.mg m)) (hr : Room k X.A) (hg : Gl X x) (hm : X.mg x = some (.ref f)) (hk : PySem.W.keepIn X.K (.ref f) = true) (hb : Binds X.K fd ps []) (hx : Passes CX' X W)
    (hdb : (x == ("__debug__" : Str)) = false := by decide) : DE X W (.Call (.Name x p) [] [] pos) (dCall m dNil) := pe_weak (pe_call0 F hr hg hm hk hb .nil hx hdb) fun σ H Q ⟨io, S, env, r, S', rs, re, hf, hE⟩ =>
  ⟨io, S, [], r, S', rs, RVs.nil, hf, hE⟩
end
end DL
namespace DL
open PySem PySem.Spec PyProof.Rows L2 RT RZ

/-! ### data as the library's data -/
mutual
def D.py : D → Option PyData
  | .non => some .none
  | .bl b => some (.bool b)
  | .int i => some (.int i)
  | .str x => some (.str x)
  | .tup l => match D.pys l with
    | some ps => some (.tuple ps)
    | none => none
  | .ref _ => none
def D.pys : List D → Option (List PyData)
  | [] => some []
  | d :: ds => match D.py d, D.pys ds with
    | some p, some ps => some (p :: ps)
    | _, _ => none
end
def toPy (S : Sto) (d : D) : Option PyData := match d with
  | .ref n => match seqOf (.ref n) S with
    | some ds => match D.pys ds with
      | some ps => some (.list ps)
      | none => none
    | none => none
  | d => d.py
section
variable {K : PySem.W.Frag} {io : List Addr} {H : Hp} {S : Sto}
mutual
theorem py_Dp : ∀ (d : D) (v : V) (p : PyData), RV K io H d v → d.py = some p → Dp K H v p
  | .non, _, _, h, e => by simp only [RV] at h; subst h; cases e; exact .non
  | .bl _, _, _, h, e => by simp only [RV] at h; subst h; cases e; exact .bl _
  | .int _, _, _, h, e => by simp only [RV] at h; subst h; cases e; exact .int _
  | .str _, _, _, h, e => by simp only [RV] at h; subst h; cases e; exact .str _
  | .tup l, v, p, h, e => by
    simp only [RV] at h
    obtain ⟨a, vs, rfl, h1, h2⟩ := h
    simp only [D.py] at e
    split at e
    · rename_i ps hp
      cases e
      exact .tup h1 (pys_Dp l vs ps h2 hp)
    · cases e
  | .ref _, _, _, _, e => by cases e
theorem pys_Dp : ∀ (ds : List D) (vs : List V) (ps : List PyData), RVs K io H ds vs → D.pys ds = some ps → DpAll K H vs ps
  | [], _, _, h, e => by simp only [RVs] at h; subst h; cases e; exact .nil
  | d :: ds, _, ps, h, e => by
    simp only [RVs] at h
    obtain ⟨v, r, rfl, h1, h2⟩ := h
    simp only [D.pys] at e
    split at e
    · rename_i p q hp hq
      cases e
      exact .cons (py_Dp d v p h1 hp) (pys_Dp ds r q h2 hq)
    · cases e
end
theorem toPy_Dp {d : D} {v : V} {p : PyData} (rs : RS K io S H) (r : RV K io H d v) (h : toPy S d = some p) : Dp K H v p := by
  cases d with
  | ref n =>
    simp only [toPy] at h
    split at h
    · rename_i ds hs
      split at h
      · rename_i ps hp
        cases h
        obtain ⟨a, vs, rfl, e2, e3, e4⟩ := rs.seq (seq_ref hs) r
        exact .lst e3 (pys_Dp ds vs ps e4 hp)
      · cases h
    · cases h
  | _ => exact py_Dp _ v p r h
end

/-! ### two-place operations -/
def fit (x : D) (S : Sto) : Option (D × Sto) := some (x, S)
open Classical in
noncomputable def gAdd : D → D → Sto → Option (D × Sto)
  | .int i, .int j, S => some (.int (i + j), S)
  | .str x, .str y, S => if x.length + y.length ≤ sizeLine then some (.str (x ++ y), S) else none
  | .tup xs, .tup ys, S => if xs.length + ys.length ≤ sizeLine then some (.tup (xs ++ ys), S) else none
  | .ref l, .ref m, S => match S[l]?, S[m]? with
    | some (.lst xs), some (.lst ys) => if xs.length + ys.length ≤ sizeLine then some (.ref S.length, S ++ [.lst (xs ++ ys)]) else none
    | _, _ => none
  | .int i, .bl k, S => some (.int (i + b2i k), S)
  | _, _, _ => none
def gSub : D → D → Sto → Option (D × Sto)
  | .int i, .int j, S => some (.int (i - j), S)
  | _, _, _ => none
open Classical in
noncomputable def gMul : D → D → Sto → Option (D × Sto)
  | .int i, .int j, S => if CMul i j ∨ CMulW i j ∨ IntMulOk i j then some (.int (i * j), S) else none
  | .str x, .int n, S => if MulOk x n then some (.str (Txt.mul x n), S) else none
  | .ref l, .int k, S => match S[l]? with
    | some (.lst xs) => if -(2 ^ 63) ≤ k ∧ k < 2 ^ 63 ∧ xs.length * k.toNat ≤ sizeLine then some (.ref S.length, S ++ [.lst (List.replicate k.toNat xs).flatten]) else none
    | _ => none
  | _, _, _ => none
open Classical in
noncomputable def gFdiv : D → D → Sto → Option (D × Sto)
  | .int i, .int j, S => if CDivW i j then some (.int (i / j), S) else none
  | _, _, _ => none
def gMod : D → D → Sto → Option (D × Sto)
  | .int i, .int j, S => if 0 < j then some (.int (i % j), S) else none
  | _, _, _ => none
open Classical in
noncomputable def gPow : D → D → Sto → Option (D × Sto)
  | .int i, .int j, S => if CPow i j then some (.int (i ^ j.toNat), S) else none
  | _, _, _ => none
def deepEq (a b : D) (S : Sto) : Option Bool := match toPy S a, toPy S b with
  | some d, some e => if SeqAt.shaped d = true ∧ SeqAt.shaped e = true then some (PyData.eqv d e) else none
  | _, _ => none
def eqB : D → D → Sto → Option Bool
  | .int i, .int j, _ => some (decide (i = j))
  | .str x, .str y, _ => some (decide (x = y))
  | .bl x, .bl y, _ => some (decide (x = y))
  | .non, .non, _ => some true
  | .non, .str _, _ => some false
  | .str _, .non, _ => some false
  | a, b, S => deepEq a b S
def blS (x : Option Bool) (S : Sto) : Option (D × Sto) := match x with
  | some b => some (.bl b, S)
  | none => none
def gEq (a b : D) (S : Sto) : Option (D × Sto) := blS (eqB a b S) S
def gNe (a b : D) (S : Sto) : Option (D × Sto) := blS ((eqB a b S).map (!·)) S
def gLt : D → D → Sto → Option (D × Sto)
  | .int i, .int j, S => some (.bl (decide (i < j)), S)
  | .str x, .str y, S => some (.bl (decide (x.cps.toList < y.cps.toList)), S)
  | _, _, _ => none
def gLe : D → D → Sto → Option (D × Sto)
  | .int i, .int j, S => some (.bl (decide (i ≤ j)), S)
  | .str x, .str y, S => some (.bl (!decide (y.cps.toList < x.cps.toList)), S)
  | _, _, _ => none
def gGt : D → D → Sto → Option (D × Sto)
  | .int i, .int j, S => some (.bl (decide (j < i)), S)
  | .str x, .str y, S => some (.bl (decide (y.cps.toList < x.cps.toList)), S)
  | _, _, _ => none
def gGe : D → D → Sto → Option (D × Sto)
  | .int i, .int j, S => some (.bl (decide (j ≤ i)), S)
  | .str x, .str y, S => some (.bl (!decide (x.cps.toList < y.cps.toList)), S)
  | _, _, _ => none
def isNon : D → Bool
  | .non => true
  | _ => false
def gIs : D → D → Sto → Option (D × Sto)
  | a, .non, S => some (.bl (isNon a), S)
  | _, _, _ => none
def gIsNot : D → D → Sto → Option (D × Sto)
  | a, .non, S => some (.bl (!isNon a), S)
  | _, _, _ => none
def D.flat : D → Bool
  | .non => true
  | .bl _ => true
  | .int _ => true
  | .str _ => true
  | _ => false
def eqF : D → D → Bool
  | .non, .non => true
  | .bl a, .bl b => a == b
  | .bl a, .int b => (if a then 1 else 0) == b
  | .int a, .bl b => a == (if b then 1 else 0)
  | .int a, .int b => a == b
  | .str a, .str b => a == b
  | _, _ => false
def inF (x : D) (xs : List D) : Bool := xs.any fun y => eqF y x
def inB (x y : D) (S : Sto) : Option Bool := match x, y with
  | .str a, .str b => some (!(Builtin.Str.occurrences b a 0 b.length 1).isEmpty)
  | x, y => match seqOf y S with
    | some ds => if x.flat = true ∧ ds.all D.flat = true then some (inF x ds) else none
    | none => none
def gIn (a b : D) (S : Sto) : Option (D × Sto) := blS (inB a b S) S
def gNotIn (a b : D) (S : Sto) : Option (D × Sto) := blS ((inB a b S).map (!·)) S
def gIx (a b : D) (S : Sto) : Option (D × Sto) := match a, b with
  | .str z, .int i => if z.length ≤ sizeLine then match atI z.cps.toList i with
      | some c => some (.str ⟨#[c]⟩, S)
      | none => none
    else none
  | a, .int i => match seqOf a S with
    | some ds => match atI ds i with
      | some d => some (d, S)
      | none => none
    | none => none
  | _, _ => none

section
variable {X : Cx}
theorem sIntII {K : PySem.W.Frag} {io : List Addr} {H : Hp} {i : Int} {v : V} (h : RV K io H (.int i) v) : v = .int i := by simpa [RV] using h
theorem sStr {K : PySem.W.Frag} {io : List Addr} {H : Hp} {i : Str} {v : V} (h : RV K io H (.str i) v) : v = .str i := by simpa [RV] using h
theorem sBl {K : PySem.W.Frag} {io : List Addr} {H : Hp} {i : Bool} {v : V} (h : RV K io H (.bl i) v) : v = .bl i := by simpa [RV] using h
theorem sNon {K : PySem.W.Frag} {io : List Addr} {H : Hp} {v : V} (h : RV K io H .non v) : v = .non := by simpa [RV] using h
theorem mInt {K : PySem.W.Frag} {io : List Addr} {H : Hp} {i : Int} : RV K io H (.int i) (.int i) := by simp [RV]
theorem mStr {K : PySem.W.Frag} {io : List Addr} {H : Hp} {i : Str} : RV K io H (.str i) (.str i) := by simp [RV]
theorem mBl {K : PySem.W.Frag} {io : List Addr} {H : Hp} {i : Bool} : RV K io H (.bl i) (.bl i) := by simp [RV]
theorem mNon {K : PySem.W.Frag} {io : List Addr} {H : Hp} : RV K io H .non .non := by simp [RV]
theorem mRef {K : PySem.W.Frag} {io : List Addr} {H : Hp} {n : Nat} {a : Addr} (h : io[n]? = some a) : RV K io H (.ref n) (.ref a) := by
  unfold RV
  exact ⟨a, h, rfl⟩
/-- ints -/
theorem opII {f : Value → Value → Sem Value} {C : Int → Int → Prop} {r : Int → Int → Int} (h : OpR X f (rI C fun i j => .int (r i j))) {pins : List (Addr × Obj)} {s : Shared} {σ : L2.St} {H : Hp} {x y : V} {v u : Value} {Q : VK} {io : List Addr} {i j : Int} (I : Inv X pins σ H s) (rx : RelV x v) (ry : RelV y u)
    (r1 : RV X.K io H (.int i) x) (r2 : RV X.K io H (.int j) y) (c : C i j) (q : Q (.int (r i j)) H) : wpAny (model X.prog X.w) X.A (f v u) (EP X pins σ Q) X.xe s :=
  h pins s σ H x y v u Q I rx ry ⟨i, j, sIntII r1, sIntII r2, c, q⟩
theorem o_add : OpD X (binaryOp .Add) gAdd := by
  intro pins s σ H x y v u Q I rx ry h
  obtain ⟨io, S, a, b, d, S', rs, r1, r2, hg, q⟩ := h
  unfold gAdd at hg
  split at hg
  · cases hg
    exact op_add pins s σ H x y v u Q I rx ry ⟨_, _, sIntII r1, sIntII r2, q io H _ Ext.refl rs mInt⟩
  · split at hg
    · rename_i hz
      cases hg
      exact op_add_str pins s σ H x y v u Q I rx ry ⟨_, _, sStr r1, sStr r2, hz, q io H _ Ext.refl rs mStr⟩
    · cases hg
  · split at hg
    · rename_i xs ys hz
      cases hg
      unfold RV at r1 r2
      obtain ⟨a, vs, rfl, p1, p2⟩ := r1
      obtain ⟨b, ws, rfl, p3, p4⟩ := r2
      refine op_catA pins s σ H _ _ v u Q I rx ry ⟨a, b, vs, ws, rfl, rfl, p1, p3, by rw [← p2.length, ← p4.length]; exact hz, fun e => ?_, fun e1 e2 => ?_, fun _ _ p hp => ?_⟩
      · subst e
        have : xs = [] := List.eq_nil_of_length_eq_zero p2.length
        subst this
        refine q io H _ Ext.refl rs ?_
        unfold RV
        exact ⟨b, ws, rfl, p3, by simpa using p4⟩
      · subst e2
        have : ys = [] := List.eq_nil_of_length_eq_zero p4.length
        subst this
        refine q io H _ Ext.refl rs ?_
        unfold RV
        exact ⟨a, vs, rfl, p1, by simpa using p2⟩
      · refine q io _ _ (Ext.fresh hp) (rs.tupNew hp) ?_
        unfold RV
        exact ⟨p, _, rfl, SqT.of upd_same, RVs.mono (Ext.fresh hp) _ _ (p2.append p4)⟩
    · cases hg
  · split at hg
    · rename_i xs ys h1 h2
      split at hg
      · rename_i hz
        cases hg
        obtain ⟨a, vs, rfl, _, p1, p2⟩ := rs.lst h1 r1
        obtain ⟨b, ws, rfl, _, p3, p4⟩ := rs.lst h2 r2
        exact op_cat pins s σ H _ _ v u Q I rx ry ⟨a, b, vs, ws, rfl, rfl, p1, p3, by rw [← p2.length, ← p4.length]; exact hz, fun p hp => q _ _ _ (Ext.new hp) (rs.lstNew hp (p2.append p4)) (mRef rs.lastNew)⟩
      · cases hg
    · cases hg
  · cases hg
    exact op_add_ib pins s σ H x y v u Q I rx ry ⟨_, _, sIntII r1, sBl r2, q io H _ Ext.refl rs mInt⟩
  · cases hg
theorem o_sub : OpD X (binaryOp .Sub) gSub := by
  intro pins s σ H x y v u Q I rx ry h
  obtain ⟨io, S, a, b, d, S', rs, r1, r2, hg, q⟩ := h
  unfold gSub at hg
  split at hg
  · cases hg
    exact op_sub pins s σ H x y v u Q I rx ry ⟨_, _, sIntII r1, sIntII r2, q io H _ Ext.refl rs mInt⟩
  · cases hg
def gIAdd : D → D → Sto → Option (D × Sto)
  | .int i, .int j, S => some (.int (i + j), S)
  | .str x, .str y, S => if x.length + y.length ≤ sizeLine then some (.str (x ++ y), S) else none
  | _, _, _ => none
theorem o_iadd : OpD X (inplaceOp .Add) gIAdd := by
  intro pins s σ H x y v u Q I rx ry h
  obtain ⟨io, S, a, b, d, S', rs, r1, r2, hg, q⟩ := h
  unfold gIAdd at hg
  split at hg
  · cases hg
    exact iop_add pins s σ H x y v u Q I rx ry ⟨_, _, sIntII r1, sIntII r2, q io H _ Ext.refl rs mInt⟩
  · split at hg
    · rename_i hz
      cases hg
      exact iop_add_str pins s σ H x y v u Q I rx ry ⟨_, _, sStr r1, sStr r2, hz, q io H _ Ext.refl rs mStr⟩
    · cases hg
  · cases hg
theorem op_mulI : OpR X (binaryOp .Mult) (rI IntMulOk fun i j => .int (i * j)) := opI fun _ _ _ _ _ _ _ hc q => mul_int q hc
theorem o_mul : OpD X (binaryOp .Mult) gMul := by
  intro pins s σ H x y v u Q I rx ry h
  obtain ⟨io, S, a, b, d, S', rs, r1, r2, hg, q⟩ := h
  unfold gMul at hg
  split at hg
  · split at hg
    · rename_i hc
      cases hg
      rcases hc with hc | hc | hc
      · exact op_mul pins s σ H x y v u Q I rx ry ⟨_, _, sIntII r1, sIntII r2, hc, q io H _ Ext.refl rs mInt⟩
      · exact op_mulW pins s σ H x y v u Q I rx ry ⟨_, _, sIntII r1, sIntII r2, hc, q io H _ Ext.refl rs mInt⟩
      · exact op_mulI pins s σ H x y v u Q I rx ry ⟨_, _, sIntII r1, sIntII r2, hc, q io H _ Ext.refl rs mInt⟩
    · cases hg
  · split at hg
    · rename_i hc
      cases hg
      have e1 := sStr r1
      have e2 := sIntII r2
      subst e1 e2
      obtain ⟨t, rfl⟩ := rx
      obtain ⟨t', rfl⟩ := ry
      exact SB.mul hc fun t2 k => ⟨.str _, H, I.tok _, ⟨_, rfl⟩, q io H _ Ext.refl rs mStr⟩
    · cases hg
  · split at hg
    · rename_i xs h1
      split at hg
      · rename_i hz
        cases hg
        obtain ⟨a, vs, rfl, _, p1, p2⟩ := rs.lst h1 r1
        have rep : ∀ k : Nat, RVs X.K io H (List.replicate k xs).flatten (List.replicate k vs).flatten := fun k => by
          induction k with
          | zero => exact RVs.nil
          | succ k ih =>
            rw [List.replicate_succ, List.replicate_succ, List.flatten_cons, List.flatten_cons]
            exact p2.append ih
        exact op_rep pins s σ H _ _ v u Q I rx ry ⟨a, _, vs, rfl, sIntII r2, p1, hz.1, hz.2.1, by rw [← p2.length]; exact hz.2.2, fun p hp => q _ _ _ (Ext.new hp) (rs.lstNew hp (rep _)) (mRef rs.lastNew)⟩
      · cases hg
    · cases hg
  · cases hg
theorem o_fdiv : OpD X (binaryOp .FloorDiv) gFdiv := by
  intro pins s σ H x y v u Q I rx ry h
  obtain ⟨io, S, a, b, d, S', rs, r1, r2, hg, q⟩ := h
  unfold gFdiv at hg
  split at hg
  · split at hg
    · rename_i hc
      cases hg
      exact op_fdivW pins s σ H x y v u Q I rx ry ⟨_, _, sIntII r1, sIntII r2, hc, q io H _ Ext.refl rs mInt⟩
    · cases hg
  · cases hg
theorem o_mod : OpD X (binaryOp .Mod) gMod := by
  intro pins s σ H x y v u Q I rx ry h
  obtain ⟨io, S, a, b, d, S', rs, r1, r2, hg, q⟩ := h
  unfold gMod at hg
  split at hg
  · split at hg
    · rename_i hc
      cases hg
      exact op_mod pins s σ H x y v u Q I rx ry ⟨_, _, sIntII r1, sIntII r2, hc, q io H _ Ext.refl rs mInt⟩
    · cases hg
  · cases hg
theorem o_pow : OpD X (binaryOp .Pow) gPow := by
  intro pins s σ H x y v u Q I rx ry h
  obtain ⟨io, S, a, b, d, S', rs, r1, r2, hg, q⟩ := h
  unfold gPow at hg
  split at hg
  · split at hg
    · rename_i hc
      cases hg
      exact op_pow pins s σ H x y v u Q I rx ry ⟨_, _, sIntII r1, sIntII r2, hc, q io H _ Ext.refl rs mInt⟩
    · cases hg
  · cases hg
theorem deep_eq {K : PySem.W.Frag} {io : List Addr} {H : Hp} {S : Sto} {a b : D} {x y : V} {r : Bool} (rs : RS K io S H) (r1 : RV K io H a x) (r2 : RV K io H b y) (h : deepEq a b S = some r) : ∃ d e, Dp K H x d ∧ Dp K H y e ∧ SeqAt.shaped d = true ∧ SeqAt.shaped e = true ∧ r = PyData.eqv d e := by
  unfold deepEq at h
  split at h
  · rename_i d e h1 h2
    split at h
    · rename_i hc
      cases h
      exact ⟨d, e, toPy_Dp rs r1 h1, toPy_Dp rs r2 h2, hc.1, hc.2, rfl⟩
    · cases h
  · cases h
theorem eqB_cases {K : PySem.W.Frag} {io : List Addr} {H : Hp} {S : Sto} {a b : D} {x y : V} {r : Bool} (rs : RS K io S H) (r1 : RV K io H a x) (r2 : RV K io H b y) (h : eqB a b S = some r) :
    (scal x y = true ∧ r = decide (x = y)) ∨ ∃ d e, Dp K H x d ∧ Dp K H y e ∧ SeqAt.shaped d = true ∧ SeqAt.shaped e = true ∧ r = PyData.eqv d e := by
  unfold eqB at h
  split at h
  · cases h
    have e1 := sIntII r1; have e2 := sIntII r2
    subst e1 e2
    exact .inl ⟨rfl, by simp⟩
  · cases h
    have e1 := sStr r1; have e2 := sStr r2
    subst e1 e2
    exact .inl ⟨rfl, by simp⟩
  · cases h
    have e1 := sBl r1; have e2 := sBl r2
    subst e1 e2
    exact .inl ⟨rfl, by simp⟩
  · cases h
    have e1 := sNon r1; have e2 := sNon r2
    subst e1 e2
    exact .inl ⟨rfl, by simp⟩
  · cases h
    have e1 := sNon r1; have e2 := sStr r2
    subst e1 e2
    exact .inl ⟨rfl, by simp⟩
  · cases h
    have e1 := sStr r1; have e2 := sNon r2
    subst e1 e2
    exact .inl ⟨rfl, by simp⟩
  · exact .inr (deep_eq rs r1 r2 h)
theorem blS_some {x : Option Bool} {S S' : Sto} {d : D} (h : blS x S = some (d, S')) : ∃ b, x = some b ∧ d = .bl b ∧ S' = S := by
  unfold blS at h
  split at h
  · cases h
    exact ⟨_, rfl, rfl, rfl⟩
  · cases h
theorem o_eq (hu : X.A.units + 64 < cLine) : OpD X (compareOp .Eq) gEq := by
  intro pins s σ H x y v u Q I rx ry h
  obtain ⟨io, S, a, b, d, S', rs, r1, r2, hg, q⟩ := h
  obtain ⟨r, h1, rfl, rfl⟩ := blS_some hg
  rcases eqB_cases rs r1 r2 h1 with ⟨h2, rfl⟩ | ⟨d, e, p1, p2, p3, p4, rfl⟩
  · exact op_eq pins s σ H x y v u Q I rx ry ⟨h2, q io H _ Ext.refl rs mBl⟩
  · exact op_eqD hu pins s σ H x y v u Q I rx ry ⟨d, e, p1, p2, p3, p4, q io H _ Ext.refl rs mBl⟩
theorem o_ne (hu : X.A.units + 64 < cLine) : OpD X (compareOp .NotEq) gNe := by
  intro pins s σ H x y v u Q I rx ry h
  obtain ⟨io, S, a, b, d, S', rs, r1, r2, hg, q⟩ := h
  obtain ⟨r, h1, rfl, rfl⟩ := blS_some hg
  obtain ⟨r', h1', rfl⟩ : ∃ r', eqB a b S' = some r' ∧ r = !r' := by
    cases he : eqB a b S' with
    | none => rw [he] at h1; cases h1
    | some r' => rw [he] at h1; cases h1; exact ⟨r', rfl, rfl⟩
  rcases eqB_cases rs r1 r2 h1' with ⟨h2, rfl⟩ | ⟨d, e, p1, p2, p3, p4, rfl⟩
  · exact op_ne pins s σ H x y v u Q I rx ry ⟨h2, q io H _ Ext.refl rs mBl⟩
  · exact op_neD hu pins s σ H x y v u Q I rx ry ⟨d, e, p1, p2, p3, p4, q io H _ Ext.refl rs mBl⟩
theorem o_lt : OpD X (compareOp .Lt) gLt := by
  intro pins s σ H x y v u Q I rx ry h
  obtain ⟨io, S, a, b, d, S', rs, r1, r2, hg, q⟩ := h
  unfold gLt at hg
  split at hg
  · cases hg
    exact op_lt pins s σ H x y v u Q I rx ry ⟨_, _, sIntII r1, sIntII r2, q io H _ Ext.refl rs mBl⟩
  · cases hg
    exact op_lt_str pins s σ H x y v u Q I rx ry ⟨_, _, sStr r1, sStr r2, q io H _ Ext.refl rs mBl⟩
  · cases hg
theorem o_le : OpD X (compareOp .LtE) gLe := by
  intro pins s σ H x y v u Q I rx ry h
  obtain ⟨io, S, a, b, d, S', rs, r1, r2, hg, q⟩ := h
  unfold gLe at hg
  split at hg
  · cases hg
    exact op_le pins s σ H x y v u Q I rx ry ⟨_, _, sIntII r1, sIntII r2, q io H _ Ext.refl rs mBl⟩
  · cases hg
    exact op_le_str pins s σ H x y v u Q I rx ry ⟨_, _, sStr r1, sStr r2, q io H _ Ext.refl rs mBl⟩
  · cases hg
theorem o_gt : OpD X (compareOp .Gt) gGt := by
  intro pins s σ H x y v u Q I rx ry h
  obtain ⟨io, S, a, b, d, S', rs, r1, r2, hg, q⟩ := h
  unfold gGt at hg
  split at hg
  · cases hg
    exact op_gt pins s σ H x y v u Q I rx ry ⟨_, _, sIntII r1, sIntII r2, q io H _ Ext.refl rs mBl⟩
  · cases hg
    exact op_gt_str pins s σ H x y v u Q I rx ry ⟨_, _, sStr r1, sStr r2, q io H _ Ext.refl rs mBl⟩
  · cases hg
theorem o_ge : OpD X (compareOp .GtE) gGe := by
  intro pins s σ H x y v u Q I rx ry h
  obtain ⟨io, S, a, b, d, S', rs, r1, r2, hg, q⟩ := h
  unfold gGe at hg
  split at hg
  · cases hg
    exact op_ge pins s σ H x y v u Q I rx ry ⟨_, _, sIntII r1, sIntII r2, q io H _ Ext.refl rs mBl⟩
  · cases hg
    exact op_ge_str pins s σ H x y v u Q I rx ry ⟨_, _, sStr r1, sStr r2, q io H _ Ext.refl rs mBl⟩
  · cases hg
theorem rv_non {K : PySem.W.Frag} {io : List Addr} {H : Hp} {a : D} {x : V} (r : RV K io H a x) : decide (x = .non) = isNon a := by
  cases a with
  | non => simp only [RV] at r; subst r; rfl
  | bl _ => simp only [RV] at r; subst r; rfl
  | int _ => simp only [RV] at r; subst r; rfl
  | str _ => simp only [RV] at r; subst r; rfl
  | tup _ => simp only [RV] at r; obtain ⟨a, _, rfl, _⟩ := r; rfl
  | ref _ => simp only [RV] at r; obtain ⟨a, _, rfl⟩ := r; rfl
theorem o_is : OpD X (compareOp .Is) gIs := by
  intro pins s σ H x y v u Q I rx ry h
  obtain ⟨io, S, a, b, d, S', rs, r1, r2, hg, q⟩ := h
  unfold gIs at hg
  split at hg
  · cases hg
    exact op_isN pins s σ H x y v u Q I rx ry ⟨sNon r2, by rw [rv_non r1]; exact q io H _ Ext.refl rs mBl⟩
  · cases hg
theorem o_isnot : OpD X (compareOp .IsNot) gIsNot := by
  intro pins s σ H x y v u Q I rx ry h
  obtain ⟨io, S, a, b, d, S', rs, r1, r2, hg, q⟩ := h
  unfold gIsNot at hg
  split at hg
  · cases hg
    exact op_notN pins s σ H x y v u Q I rx ry ⟨sNon r2, by rw [rv_non r1]; exact q io H _ Ext.refl rs mBl⟩
  · cases hg
theorem flat_V {K : PySem.W.Frag} {io : List Addr} {H : Hp} {a : D} {x : V} (r : RV K io H a x) (h : a.flat = true) : flatV x = true := by
  cases a with
  | non => simp only [RV] at r; subst r; rfl
  | bl _ => simp only [RV] at r; subst r; rfl
  | int _ => simp only [RV] at r; subst r; rfl
  | str _ => simp only [RV] at r; subst r; rfl
  | tup _ => cases h
  | ref _ => cases h
theorem eqF_V {K : PySem.W.Frag} {io : List Addr} {H : Hp} {a b : D} {x y : V} (r : RV K io H a x) (q : RV K io H b y) (h : a.flat = true) (h' : b.flat = true) : eqV x y = eqF a b := by
  cases a <;> first | cases h | skip
  all_goals (cases b <;> first | cases h' | skip)
  all_goals (simp only [RV] at r q; subst r; subst q; rfl)
theorem flats_V {K : PySem.W.Frag} {io : List Addr} {H : Hp} : ∀ {ds : List D} {vs : List V}, RVs K io H ds vs → ds.all D.flat = true → vs.all flatV = true
  | [], _, r, _ => by simp only [RVs] at r; subst r; rfl
  | d :: ds, _, r, h => by
    simp only [RVs] at r
    obtain ⟨v, w, rfl, r1, r2⟩ := r
    simp only [List.all_cons, Bool.and_eq_true] at h ⊢
    exact ⟨flat_V r1 h.1, flats_V r2 h.2⟩
theorem inF_V {K : PySem.W.Frag} {io : List Addr} {H : Hp} {a : D} {x : V} (ra : RV K io H a x) (ha : a.flat = true) : ∀ {ds : List D} {vs : List V}, RVs K io H ds vs → ds.all D.flat = true → inV x vs = inF a ds
  | [], _, r, _ => by simp only [RVs] at r; subst r; rfl
  | d :: ds, _, r, h => by
    simp only [RVs] at r
    obtain ⟨v, w, rfl, r1, r2⟩ := r
    simp only [List.all_cons, Bool.and_eq_true] at h
    show (eqV v x || inV x w) = (eqF d a || inF a ds)
    rw [eqF_V r1 ra h.1 ha, inF_V ra ha r2 h.2]
theorem inB_cases {K : PySem.W.Frag} {io : List Addr} {H : Hp} {S : Sto} {a b : D} {x y : V} {r : Bool} (rs : RS K io S H) (r1 : RV K io H a x) (r2 : RV K io H b y) (h : inB a b S = some r) :
    (∃ i j, x = .str i ∧ y = .str j ∧ r = !(Builtin.Str.occurrences j i 0 j.length 1).isEmpty) ∨ ∃ p xs, y = .ref p ∧ (SqL K H p xs ∨ SqT K H p xs) ∧ flatV x = true ∧ xs.all flatV = true ∧ r = inV x xs := by
  unfold inB at h
  split at h
  · cases h
    exact .inl ⟨_, _, sStr r1, sStr r2, rfl⟩
  · split at h
    · rename_i ds hs
      split at h
      · rename_i hc
        cases h
        obtain ⟨p, vs, rfl, e2, e3⟩ := RV.seq rs r2 hs
        exact .inr ⟨p, vs, rfl, e2, flat_V r1 hc.1, flats_V e3 hc.2, (inF_V r1 hc.1 e3 hc.2).symm⟩
      · cases h
    · cases h
theorem o_in : OpD X (compareOp .In) gIn := by
  intro pins s σ H x y v u Q I rx ry h
  obtain ⟨io, S, a, b, d, S', rs, r1, r2, hg, q⟩ := h
  obtain ⟨r, h1, rfl, rfl⟩ := blS_some hg
  rcases inB_cases rs r1 r2 h1 with ⟨i, j, e1, e2, rfl⟩ | ⟨p, xs, e1, e2, e3, e4, rfl⟩
  · exact op_in_str pins s σ H x y v u Q I rx ry ⟨i, j, e1, e2, q io H _ Ext.refl rs mBl⟩
  · exact op_in_seq pins s σ H x y v u Q I rx ry ⟨p, xs, e1, e2, e3, e4, q io H _ Ext.refl rs mBl⟩
theorem o_notin : OpD X (compareOp .NotIn) gNotIn := by
  intro pins s σ H x y v u Q I rx ry h
  obtain ⟨io, S, a, b, d, S', rs, r1, r2, hg, q⟩ := h
  obtain ⟨r, h1, rfl, rfl⟩ := blS_some hg
  obtain ⟨r', h1', rfl⟩ : ∃ r', inB a b S' = some r' ∧ r = !r' := by
    cases he : inB a b S' with
    | none => rw [he] at h1; cases h1
    | some r' => rw [he] at h1; cases h1; exact ⟨r', rfl, rfl⟩
  rcases inB_cases rs r1 r2 h1' with ⟨i, j, e1, e2, rfl⟩ | ⟨p, xs, e1, e2, e3, e4, rfl⟩
  · exact op_notIn_str pins s σ H x y v u Q I rx ry ⟨i, j, e1, e2, q io H _ Ext.refl rs mBl⟩
  · exact op_notIn_seq pins s σ H x y v u Q I rx ry ⟨p, xs, e1, e2, e3, e4, q io H _ Ext.refl rs mBl⟩
theorem RVs.at {K : PySem.W.Frag} {io : List Addr} {H : Hp} {ds : List D} {vs : List V} {i : Int} {d : D} (h : RVs K io H ds vs) (e : atI ds i = some d) : ∃ v, atI vs i = some v ∧ RV K io H d v := by
  unfold atI at e ⊢
  rw [← h.length]
  cases hn : ixN ds.length i with
  | none => rw [hn] at e; cases e
  | some j =>
    rw [hn] at e
    exact h.get e
theorem gIx_cases {K : PySem.W.Frag} {io : List Addr} {H : Hp} {S S' : Sto} {a b d : D} {x y : V} {Q : VK} (rs : RS K io S H) (r1 : RV K io H a x) (r2 : RV K io H b y) (h : gIx a b S = some (d, S')) (q : ∀ io' H' v, Ext K io H io' H' → RS K io' S' H' → RV K io' H' d v → Q v H') : rIx K x y H Q := by
  unfold gIx at h
  split at h
  · split at h
    · rename_i hz
      split at h
      · rename_i c hc
        cases h
        exact .inr (.inr ⟨_, _, c, sStr r1, sIntII r2, hz, hc, q io H _ Ext.refl rs mStr⟩)
      · cases h
    · cases h
  · split at h
    · rename_i ds hs
      split at h
      · rename_i e he
        cases h
        obtain ⟨p, vs, rfl, e2, e3⟩ := RV.seq rs r1 hs
        obtain ⟨w, w1, w2⟩ := e3.at he
        rcases e2 with e2 | e2
        · exact .inl ⟨p, vs, _, w, rfl, sIntII r2, e2, w1, q io H _ Ext.refl rs w2⟩
        · exact .inr (.inl ⟨p, vs, _, w, rfl, sIntII r2, e2, w1, q io H _ Ext.refl rs w2⟩)
      · cases h
    · cases h
  · cases h
theorem i_ix : IxR X (rM X.K gIx) := by
  intro value slice pins s σ H x y v u Q I rx ry h hs
  obtain ⟨io, S, a, b, d, S', rs, r1, r2, hg, q⟩ := h
  exact ix_seq value slice pins s σ H x y v u Q I rx ry (gIx_cases rs r1 r2 hg q) hs
/-- xs[i] read by o[i] op= e -/
def gIxL (a b : D) (S : Sto) : Option (D × Sto) := match a, b with
  | .ref n, .int i => match seqOf (.ref n) S with
    | some ds => match atI ds i with
      | some d => if 0 ≤ i then some (d, S) else none
      | none => none
    | none => none
  | _, _ => none
def gSetL (a b d : D) (S : Sto) : Option Sto := match a, b with
  | .ref n, .int k => match S[n]? with
    | some (.lst ds) => match ixN ds.length k with
      | some j => some (S.set n (.lst (ds.set j d)))
      | none => none
    | _ => none
  | _, _ => none
theorem s_list : SetD X gSetL := by
  intro pins s σ H o i v ov iv u Q I ro ri rv h
  obtain ⟨io, S, a, b, d, S', rs, r1, r2, r3, hg, q⟩ := h
  unfold gSetL at hg
  split at hg
  · split at hg
    · rename_i ds h1
      split at hg
      · rename_i j hj
        cases hg
        obtain ⟨a, vs, rfl, e1, p1, p2⟩ := rs.lst h1 r1
        obtain ⟨rs', ex⟩ := rs.write h1 e1 (RVs.set r3 j p2)
        exact set_list pins s σ H _ _ v ov iv u Q I ro ri rv ⟨a, vs, _, j, rfl, sIntII r2, p1, by rw [← p2.length]; exact hj, q io _ ex rs'⟩
      · cases hg
    · cases hg
  · cases hg
/-! slices -/
def dOpt (f : Option (Ev → Sto → Ans D)) : Ev → Sto → Ans (Option Int) := fun env S => match f with
  | none => some (.ok none, S)
  | some f => bindR (f env S) fun d S1 => match d with
    | .int i => some (.ok (some i), S1)
    | _ => none
def cutD (xs : List D) (lo hi : Option Int) : List D := (xs.drop (HT.sIx xs.length 0 lo)).take (HT.sIx xs.length xs.length hi - HT.sIx xs.length 0 lo)
def gSl (a : D) (lo hi : Option Int) (S : Sto) : Option (D × Sto) := match a with
  | .str z => if z.length ≤ sizeLine then some (.str (cutS z lo hi), S) else none
  | .tup ds => some (.tup (cutD ds lo hi), S)
  | .ref n => match seqOf (.ref n) S with
    | some ds => some (.ref S.length, S ++ [.lst (cutD ds lo hi)])
    | none => none
  | _ => none
def dSl (fa : Ev → Sto → Ans D) (fl fh : Option (Ev → Sto → Ans D)) : Ev → Sto → Ans D := fun env S => bindR (fa env S) fun a S1 => bindR (dOpt fl env S1) fun lo S2 => bindR (dOpt fh env S2) fun hi S3 => okO (gSl a lo hi S3)
end
end DL
namespace DL
open PySem PySem.Spec PyProof.Rows L2 RT RZ

/-! ### slices -/
section
variable {K : PySem.W.Frag} {mg : Str → Option Value} {W : XK} {X : Cx}
theorem cutRV {io : List Addr} {H : Hp} {ds : List D} {vs : List V} (h : RVs K io H ds vs) (lo hi : Option Int) : RVs K io H (cutD ds lo hi) (cutV vs lo hi) := by
  unfold cutD cutV
  rw [h.length]
  exact (h.drop _).take _
def rSlM (K : PySem.W.Frag) (g : D → Option Int → Option Int → Sto → Option (D × Sto)) : V → Option Int → Option Int → Hp → VK → Prop := fun x lo hi H Q =>
  ∃ io S a d S', RS K io S H ∧ RV K io H a x ∧ g a lo hi S = some (d, S') ∧ ∀ io' H' v, Ext K io H io' H' → RS K io' S' H' → RV K io' H' d v → Q v H'
theorem sl_all : SlR X (rSlM X.K gSl) := by
  intro pins s σ H x v vl vu lo hi sl Q I rx hs pl pu h
  obtain ⟨io, S, a, d, S', rs, r1, hg, q⟩ := h
  unfold gSl at hg
  split at hg
  · split at hg
    · rename_i hz
      cases hg
      exact sl_str pins s σ H x v vl vu lo hi sl Q I rx hs pl pu ⟨_, sStr r1, hz, q io H _ Ext.refl rs mStr⟩
    · cases hg
  · rename_i ds
    cases hg
    unfold RV at r1
    obtain ⟨p, vs, rfl, e1, e2⟩ := r1
    refine sl_tupA pins s σ H _ v vl vu lo hi sl Q I rx hs pl pu ⟨p, vs, rfl, e1, fun hw => ?_, fun _ t ht => ?_⟩
    · refine q io H _ Ext.refl rs ?_
      unfold RV
      refine ⟨p, vs, rfl, e1, ?_⟩
      have : cutD ds lo hi = ds := by
        unfold cutD
        rw [e2.length, hw.1, hw.2]
        simp only [List.drop_zero, Nat.sub_zero]
        exact List.take_of_length_le (by rw [e2.length]; exact Nat.le_refl _)
      rw [this]
      exact e2
    · refine q io _ _ (Ext.fresh ht) (rs.tupNew ht) ?_
      unfold RV
      exact ⟨t, _, rfl, SqT.of upd_same, RVs.mono (Ext.fresh ht) _ _ (cutRV e2 lo hi)⟩
  · split at hg
    · rename_i ds h1
      cases hg
      obtain ⟨p, vs, rfl, e1, e2, e3⟩ := rs.seq (seq_ref h1) r1
      exact sl_list pins s σ H _ v vl vu lo hi sl Q I rx hs pl pu ⟨p, vs, rfl, e2, fun t ht => q _ _ _ (Ext.new ht) (rs.lstNew ht (cutRV e3 lo hi)) (mRef rs.lastNew)⟩
    · cases hg
  · cases hg
abbrev rOI : List Addr → Hp → Option Int → Option Int → Prop := fun _ _ a b => a = b
theorem po_weak {e : Option Expr} {t t' : TO} (h : PO X e t) (w : ∀ σ H Q, t' σ H Q → t σ H Q) : PO X e t' := ⟨fun pins s σ H Q I q => h.run pins s σ H Q I (w σ H Q q)⟩
abbrev DO (X : Cx) (W : XK) (e : Option Expr) (f : Option (Ev → Sto → Ans D)) : Prop := PO X e (tG X.K X.mg W rOI (dOpt f))
theorem do_none : DO X W none none := po_weak po_none fun σ H Q ⟨io, S, env, r, S', rs, re, hf, hE⟩ => by
  cases hf
  exact hE.now rs rfl
theorem do_some {e : Expr} {f : Ev → Sto → Ans D} (h : DE X W e f) : DO X W (some e) (some f) := po_weak (po_some h) fun σ H Q ⟨io, S, env, r, S', rs, re, hf, hE⟩ =>
  tG_bind rs re hf hE fun d S1 io1 H1 v e1 rs1 re1 rv1 h1 hE1 => by
    cases d with
    | int i =>
      cases h1
      exact ⟨i, sIntII rv1, hE1.now rs1 rfl⟩
    | _ => cases h1
theorem d_slice {e : Expr} {lo hi : Option Expr} {p2 pos : Pos} {fa : Ev → Sto → Ans D} {fl fh : Option (Ev → Sto → Ans D)} (he : DE X W e fa) (hl : DO X W lo fl) (hu : DO X W hi fh) : DE X W (.Subscript e (.Slice lo hi none p2) pos) (dSl fa fl fh) :=
  pe_weak (pe_slice sl_all he hl hu) fun σ H Q ⟨io, S, env, r, S', rs, re, hf, hE⟩ =>
    tG_bind rs re hf hE fun a S1 io1 H1 v e1 rs1 re1 rv1 h1 hE1 => tG_bind rs1 re1 h1 hE1 fun b S2 io2 H2 w e2 rs2 re2 rv2 h2 hE2 => tG_bind rs2 re2 h2 hE2 fun c S3 io3 H3 u e3 rs3 re3 rv3 h3 hE3 => by
      cases rv2
      cases rv3
      obtain ⟨d, h4, rfl⟩ := okO_some h3
      exact ⟨io3, S3, a, d, S', rs3, RV.mono (e2.trans e3) _ _ rv1, h4, hE3⟩
end

/-! ### calls of built-ins -/
def cInt : List D → Sto → Option (D × Sto)
  | [.int i], S => some (.int i, S)
  | [.bl k], S => some (.int (if k then 1 else 0), S)
  | _, _ => none
def cAbs : List D → Sto → Option (D × Sto)
  | [.int i], S => some (.int (if i < 0 then -i else i), S)
  | _, _ => none
def cMax2 : List D → Sto → Option (D × Sto)
  | [.int i, .int j], S => some (.int (if j > i then j else i), S)
  | _, _ => none
def cMin2 : List D → Sto → Option (D × Sto)
  | [.int i, .int j], S => some (.int (if j < i then j else i), S)
  | _, _ => none
def cLen : List D → Sto → Option (D × Sto)
  | [.str x], S => if x.length ≤ sizeLine then some (.int x.length, S) else none
  | [d], S => match seqOf d S with
    | some ds => some (.int ds.length, S)
    | none => none
  | _, _ => none
def cList : List D → Sto → Option (D × Sto)
  | [d], S => match seqOf d S with
    | some ds => some (.ref S.length, S ++ [.lst ds])
    | none => none
  | _, _ => none
def cTuple : List D → Sto → Option (D × Sto)
  | [d], S => match seqOf d S with
    | some ds => some (.tup ds, S)
    | none => none
  | _, _ => none
def cStr : List D → Sto → Option (D × Sto)
  | [.int i], S => if i.natAbs.log2 < 1920 then some (.str (Str.ofString (toString i)), S) else none
  | [.str x], S => some (.str x, S)
  | _, _ => none
def intsOf : List D → Option (List Int)
  | [] => some []
  | .int i :: ds => match intsOf ds with
    | some is => some (i :: is)
    | none => none
  | _ => none
def strsOf : List D → Option (List Str)
  | [] => some []
  | .str i :: ds => match strsOf ds with
    | some is => some (i :: is)
    | none => none
  | _ => none
def blsOf : List D → Option (List Bool)
  | [] => some []
  | .bl i :: ds => match blsOf ds with
    | some is => some (i :: is)
    | none => none
  | _ => none
def cSum : List D → Sto → Option (D × Sto)
  | [.ref n], S => match seqOf (.ref n) S with
    | some ds => match intsOf ds with
      | some is => some (.int is.sum, S)
      | none => none
    | none => none
  | _, _ => none
def cAny : List D → Sto → Option (D × Sto)
  | [.ref n], S => match seqOf (.ref n) S with
    | some ds => match blsOf ds with
      | some is => some (.bl (is.any id), S)
      | none => none
    | none => none
  | _, _ => none
def cAll : List D → Sto → Option (D × Sto)
  | [.ref n], S => match seqOf (.ref n) S with
    | some ds => match blsOf ds with
      | some is => some (.bl (is.all id), S)
      | none => none
    | none => none
  | _, _ => none
/-- texts in order -/
def leS (a b : Str) : Bool := !decide (b.cps.toList < a.cps.toList)
def sortS (xs : List Str) : List Str := xs.mergeSort leS
def cSortedS : List D → Sto → Option (D × Sto)
  | [.ref n], S => match seqOf (.ref n) S with
    | some ds => match strsOf ds with
      | some is => if is.length < 64 then some (.ref S.length, S ++ [.lst ((sortS is).map D.str)]) else none
      | none => none
    | none => none
  | _, _ => none
theorem ltCps_eq : ∀ x y : List Nat, ltCps x y = decide (x < y)
  | [], [] => by simp [ltCps]
  | [], _ :: _ => by simp [ltCps]
  | _ :: _, [] => by simp [ltCps]
  | a :: r, b :: t => by
    unfold ltCps
    rw [ltCps_eq r t, Bool.eq_iff_iff]
    simp [List.cons_lt_cons_iff]
theorem leS_iff {a b : Str} : leS a b = true ↔ a.cps.toList ≤ b.cps.toList := by
  unfold leS
  rw [Bool.not_eq_true', decide_eq_false_iff_not]
  rfl
theorem leS_trans (a b c : Str) (h : leS a b = true) (h' : leS b c = true) : leS a c = true := leS_iff.mpr (List.le_trans (leS_iff.mp h) (leS_iff.mp h'))
theorem leS_total (a b : Str) : (leS a b || leS b a) = true := by
  rcases List.le_total a.cps.toList b.cps.toList with h | h
  · rw [leS_iff.mpr h]
    rfl
  · rw [leS_iff.mpr h, Bool.or_true]
theorem leS_antisymm {a b : Str} (h : leS a b = true) (h' : leS b a = true) : a = b := by
  have e : a.cps.toList = b.cps.toList := List.le_antisymm (leS_iff.mp h) (leS_iff.mp h')
  cases a
  cases b
  simp only at e
  rw [Array.toList_inj] at e
  rw [e]
theorem risingS_pw : ∀ (l : List Str) (p : Str), risingS p l = true → (p :: l).Pairwise fun a b => leS a b = true
  | [], p, _ => List.pairwise_singleton _ _
  | x :: r, p, h => by
    unfold risingS at h
    simp only [Bool.and_eq_true, Bool.not_eq_true'] at h
    have ih := risingS_pw r x h.2
    have hp : leS p x = true := by
      unfold leS
      rw [← ltCps_eq, h.1]
      rfl
    refine List.Pairwise.cons (fun y hy => ?_) ih
    rcases List.mem_cons.mp hy with rfl | hy
    · exact hp
    · exact leS_trans _ _ _ hp ((List.pairwise_cons.mp ih).1 y hy)
theorem sortedS_pw (l : List Str) (h : sortedS l = true) : l.Pairwise fun a b => leS a b = true := by
  cases l with
  | nil => exact List.Pairwise.nil
  | cons x r => exact risingS_pw r x h
theorem sortS_unique {xs ys : List Str} (p : ys.Perm xs) (h : sortedS ys = true) : ys = sortS xs :=
  List.Perm.eq_of_pairwise (le := fun a b => leS a b = true) (fun a b _ _ h1 h2 => leS_antisymm h1 h2) (sortedS_pw ys h) (List.pairwise_mergeSort leS_trans leS_total xs) (p.trans (List.mergeSort_perm xs leS).symm)
section
variable {K : PySem.W.Frag} {io : List Addr} {H : Hp}
theorem ints_V : ∀ {ds : List D} {is : List Int} {vs : List V}, intsOf ds = some is → RVs K io H ds vs → vs = is.map V.int
  | [], is, vs, h, r => by simp only [RVs] at r; cases h; rw [r]; rfl
  | .int i :: ds, is, vs, h, r => by
    simp only [RVs] at r
    obtain ⟨v, w, rfl, r1, r2⟩ := r
    unfold intsOf at h
    split at h
    · rename_i js hj
      cases h
      rw [sIntII r1, ints_V hj r2]
      rfl
    · cases h
  | .non :: _, _, _, h, _ => by cases h
  | .bl _ :: _, _, _, h, _ => by cases h
  | .str _ :: _, _, _, h, _ => by cases h
  | .tup _ :: _, _, _, h, _ => by cases h
  | .ref _ :: _, _, _, h, _ => by cases h
theorem strs_V : ∀ {ds : List D} {is : List Str} {vs : List V}, strsOf ds = some is → RVs K io H ds vs → vs = is.map V.str
  | [], is, vs, h, r => by simp only [RVs] at r; cases h; rw [r]; rfl
  | .str i :: ds, is, vs, h, r => by
    simp only [RVs] at r
    obtain ⟨v, w, rfl, r1, r2⟩ := r
    unfold strsOf at h
    split at h
    · rename_i js hj
      cases h
      rw [sStr r1, strs_V hj r2]
      rfl
    · cases h
  | .non :: _, _, _, h, _ => by cases h
  | .bl _ :: _, _, _, h, _ => by cases h
  | .int _ :: _, _, _, h, _ => by cases h
  | .tup _ :: _, _, _, h, _ => by cases h
  | .ref _ :: _, _, _, h, _ => by cases h
theorem bls_V : ∀ {ds : List D} {is : List Bool} {vs : List V}, blsOf ds = some is → RVs K io H ds vs → vs = is.map V.bl
  | [], is, vs, h, r => by simp only [RVs] at r; cases h; rw [r]; rfl
  | .bl i :: ds, is, vs, h, r => by
    simp only [RVs] at r
    obtain ⟨v, w, rfl, r1, r2⟩ := r
    unfold blsOf at h
    split at h
    · rename_i js hj
      cases h
      rw [sBl r1, bls_V hj r2]
      rfl
    · cases h
  | .non :: _, _, _, h, _ => by cases h
  | .str _ :: _, _, _, h, _ => by cases h
  | .int _ :: _, _, _, h, _ => by cases h
  | .tup _ :: _, _, _, h, _ => by cases h
  | .ref _ :: _, _, _, h, _ => by cases h
theorem strsRV : ∀ (xs : List Str), RVs K io H (xs.map D.str) (xs.map V.str)
  | [] => RVs.nil
  | x :: xs => RVs.cons mStr (strsRV xs)
theorem rvs1 {d : D} {vs : List V} (h : RVs K io H [d] vs) : ∃ v, vs = [v] ∧ RV K io H d v := by
  simp only [RVs] at h
  obtain ⟨v, r, rfl, h1, rfl⟩ := h
  exact ⟨v, rfl, h1⟩
end
section
variable {X : Cx}
theorem c_int : CallD X (.type "int") cInt := by
  intro pins s σ H xs us Q I r h
  obtain ⟨io, S, ds, d, S', rs, rv, hg, q⟩ := h
  unfold cInt at hg
  split at hg
  · cases hg
    obtain ⟨v, rfl, e⟩ := rvs1 rv
    exact call_int1 pins s σ H _ us Q I r (.inl ⟨_, by rw [sIntII e], q io H _ Ext.refl rs mInt⟩)
  · cases hg
    obtain ⟨v, rfl, e⟩ := rvs1 rv
    exact call_int1 pins s σ H _ us Q I r (.inr ⟨_, by rw [sBl e], q io H _ Ext.refl rs mInt⟩)
  · cases hg
theorem c_abs : CallD X (.builtin "abs") cAbs := by
  intro pins s σ H xs us Q I r h
  obtain ⟨io, S, ds, d, S', rs, rv, hg, q⟩ := h
  unfold cAbs at hg
  split at hg
  · cases hg
    obtain ⟨v, rfl, e⟩ := rvs1 rv
    exact call_abs pins s σ H _ us Q I r ⟨_, by rw [sIntII e], q io H _ Ext.refl rs mInt⟩
  · cases hg
theorem c_max2 (hc : X.calm = true) : CallD X (.builtin "max") cMax2 := by
  intro pins s σ H xs us Q I r h
  obtain ⟨io, S, ds, d, S', rs, rv, hg, q⟩ := h
  unfold cMax2 at hg
  split at hg
  · cases hg
    exact call_max2 hc pins s σ H _ us Q I r ⟨_, _, RVs.int2 rv, q io H _ Ext.refl rs mInt⟩
  · cases hg
theorem c_min2 (hc : X.calm = true) : CallD X (.builtin "min") cMin2 := by
  intro pins s σ H xs us Q I r h
  obtain ⟨io, S, ds, d, S', rs, rv, hg, q⟩ := h
  unfold cMin2 at hg
  split at hg
  · cases hg
    exact call_min2 hc pins s σ H _ us Q I r ⟨_, _, RVs.int2 rv, q io H _ Ext.refl rs mInt⟩
  · cases hg
theorem c_len : CallD X (.builtin "len") cLen := by
  intro pins s σ H xs us Q I r h
  obtain ⟨io, S, ds, d, S', rs, rv, hg, q⟩ := h
  unfold cLen at hg
  split at hg
  · split at hg
    · rename_i hz
      cases hg
      obtain ⟨v, rfl, e⟩ := rvs1 rv
      exact call_len_str pins s σ H _ us Q I r ⟨_, by rw [sStr e], hz, q io H _ Ext.refl rs mInt⟩
    · cases hg
  · split at hg
    · rename_i es hs
      cases hg
      obtain ⟨v, rfl, e⟩ := rvs1 rv
      obtain ⟨p, vs, rfl, e2, e3⟩ := RV.seq rs e hs
      exact call_len_seq pins s σ H _ us Q I r ⟨p, vs, rfl, e2, by rw [← e3.length]; exact q io H _ Ext.refl rs mInt⟩
    · cases hg
  · cases hg
theorem c_list : CallD X (.type "list") cList := by
  intro pins s σ H xs us Q I r h
  obtain ⟨io, S, ds, d, S', rs, rv, hg, q⟩ := h
  unfold cList at hg
  split at hg
  · split at hg
    · rename_i es hs
      cases hg
      obtain ⟨v, rfl, e⟩ := rvs1 rv
      obtain ⟨p, vs, rfl, e2, e3⟩ := RV.seq rs e hs
      exact call_list_of pins s σ H _ us Q I r ⟨p, vs, rfl, e2, fun t ht => q _ _ _ (Ext.new ht) (rs.lstNew ht e3) (mRef rs.lastNew)⟩
    · cases hg
  · cases hg
theorem c_tuple : CallD X (.type "tuple") cTuple := by
  intro pins s σ H xs us Q I r h
  obtain ⟨io, S, ds, d, S', rs, rv, hg, q⟩ := h
  unfold cTuple at hg
  split at hg
  · split at hg
    · rename_i es hs
      cases hg
      obtain ⟨v, rfl, e⟩ := rvs1 rv
      obtain ⟨p, vs, rfl, e2, e3⟩ := RV.seq rs e hs
      refine call_tuple_of pins s σ H _ us Q I r ⟨p, vs, rfl, ?_⟩
      rcases e2 with e2 | e2
      · refine .inl ⟨e2, fun t ht => q io _ _ (Ext.fresh ht) (rs.tupNew ht) ?_⟩
        unfold RV
        exact ⟨t, _, rfl, SqT.of upd_same, RVs.mono (Ext.fresh ht) _ _ e3⟩
      · refine .inr ⟨e2, q io H _ Ext.refl rs ?_⟩
        unfold RV
        exact ⟨p, vs, rfl, e2, e3⟩
    · cases hg
  · cases hg
theorem c_str : CallD X (.type "str") cStr := by
  intro pins s σ H xs us Q I r h
  obtain ⟨io, S, ds, d, S', rs, rv, hg, q⟩ := h
  unfold cStr at hg
  split at hg
  · split at hg
    · rename_i hz
      cases hg
      obtain ⟨v, rfl, e⟩ := rvs1 rv
      exact call_str_int pins s σ H _ us Q I r ⟨_, by rw [sIntII e], hz, q io H _ Ext.refl rs mStr⟩
    · cases hg
  · cases hg
    obtain ⟨v, rfl, e⟩ := rvs1 rv
    exact SkE.call_str_str pins s σ H _ us Q I r ⟨_, by rw [sStr e], q io H _ Ext.refl rs mStr⟩
  · cases hg
theorem c_sum (hc : X.calm = true) : CallD X (.builtin "sum") cSum := by
  intro pins s σ H xs us Q I r h
  obtain ⟨io, S, ds, d, S', rs, rv, hg, q⟩ := h
  unfold cSum at hg
  split at hg
  · split at hg
    · rename_i es hs
      split at hg
      · rename_i is hi
        cases hg
        obtain ⟨v, rfl, e⟩ := rvs1 rv
        obtain ⟨p, vs, rfl, _, e2, e3⟩ := rs.seq (seq_ref hs) e
        have := ints_V hi e3
        subst this
        exact cr_sum hc pins s σ H _ us Q I r ⟨p, is, rfl, e2, q io H _ Ext.refl rs mInt⟩
      · cases hg
    · cases hg
  · cases hg
theorem c_any (hc : X.calm = true) : CallD X (.builtin "any") cAny := by
  intro pins s σ H xs us Q I r h
  obtain ⟨io, S, ds, d, S', rs, rv, hg, q⟩ := h
  unfold cAny at hg
  split at hg
  · split at hg
    · rename_i es hs
      split at hg
      · rename_i is hi
        cases hg
        obtain ⟨v, rfl, e⟩ := rvs1 rv
        obtain ⟨p, vs, rfl, _, e2, e3⟩ := rs.seq (seq_ref hs) e
        have := bls_V hi e3
        subst this
        exact cr_any hc pins s σ H _ us Q I r ⟨p, is, rfl, e2, q io H _ Ext.refl rs mBl⟩
      · cases hg
    · cases hg
  · cases hg
theorem c_all (hc : X.calm = true) : CallD X (.builtin "all") cAll := by
  intro pins s σ H xs us Q I r h
  obtain ⟨io, S, ds, d, S', rs, rv, hg, q⟩ := h
  unfold cAll at hg
  split at hg
  · split at hg
    · rename_i es hs
      split at hg
      · rename_i is hi
        cases hg
        obtain ⟨v, rfl, e⟩ := rvs1 rv
        obtain ⟨p, vs, rfl, _, e2, e3⟩ := rs.seq (seq_ref hs) e
        have := bls_V hi e3
        subst this
        exact cr_all hc pins s σ H _ us Q I r ⟨p, is, rfl, e2, q io H _ Ext.refl rs mBl⟩
      · cases hg
    · cases hg
  · cases hg
theorem c_sortedS : CallD X (.builtin "sorted") cSortedS := by
  intro pins s σ H xs us Q I r h
  obtain ⟨io, S, ds, d, S', rs, rv, hg, q⟩ := h
  unfold cSortedS at hg
  split at hg
  · split at hg
    · rename_i es hs
      split at hg
      · rename_i is hi
        split at hg
        · rename_i hz
          cases hg
          obtain ⟨v, rfl, e⟩ := rvs1 rv
          obtain ⟨p, vs, rfl, _, e2, e3⟩ := rs.seq (seq_ref hs) e
          have := strs_V hi e3
          subst this
          refine cr_sortedS pins s σ H _ us Q I r ⟨p, is, rfl, e2, hz, fun ys t hp hy ht => ?_⟩
          have := sortS_unique hp hy
          subst this
          exact q _ _ _ (Ext.new ht) (rs.lstNew ht (strsRV _)) (mRef rs.lastNew)
        · cases hg
      · cases hg
    · cases hg
  · cases hg

/-! isinstance with a built-in type -/
def tyN (d : D) (S : Sto) : Option String := match d with
  | .non => some "NoneType"
  | .bl _ => some "bool"
  | .int _ => some "int"
  | .str _ => some "str"
  | .tup _ => some "tuple"
  | .ref n => match S[n]? with
    | some (.lst _) => some "list"
    | some (.rol _) => some "list"
    | none => none
def dIsi (T : String) (fa : Ev → Sto → Ans D) : Ev → Sto → Ans D := fun env S => bindR (fa env S) fun a S1 => match tyN a S1 with
  | some n => match kitB n T with
    | some b => some (.ok (.bl b), S1)
    | none => none
  | none => none
theorem ty_X {K : PySem.W.Frag} {io : List Addr} {H : Hp} {S : Sto} {d : D} {v : V} {n : String} (rs : RS K io S H) (r : RV K io H d v) (h : tyN d S = some n) : TyX K H v (.type n) := by
  cases d with
  | non => cases h; rw [sNon r]; exact .base .non
  | bl b => cases h; rw [sBl r]; exact .base (.bl _)
  | int b => cases h; rw [sIntII r]; exact .base (.int _)
  | str b => cases h; rw [sStr r]; exact .base (.str _)
  | tup ds =>
    cases h
    unfold RV at r
    obtain ⟨a, vs, rfl, e, _⟩ := r
    rcases e with (e | ⟨o, e⟩) | ⟨o, its, m, e1, e2, _⟩
    · exact .base (.tup e)
    · exact .fTuple e
    · exact .kTuple e1 e2
  | ref m =>
    unfold RV at r
    obtain ⟨a, e1, rfl⟩ := r
    simp only [tyN] at h
    split at h
    · rename_i ds hd
      cases h
      obtain ⟨vs, q1, _⟩ := rs.obj _ _ _ hd e1
      exact .base (.lst q1)
    · rename_i ds hd
      cases h
      obtain ⟨vs, q1, _⟩ := rs.obj _ _ _ hd e1
      rcases q1 with ⟨o, q1⟩ | ⟨o, its, m, k1, k2, _⟩
      · exact .base (.frz q1)
      · exact .kList k1 k2
    · cases h
theorem d_isi {W : XK} {e : Expr} {T : String} {TN : Str} {p p2 pos : Pos} {fa : Ev → Sto → Ans D} (hg : Gl X "isinstance") (hm : X.mg "isinstance" = none) (hgT : Gl X TN) (hmT : X.mg TN = none) (hT : bootBuiltins TN = some (.type T)) (he : DE X W e fa)
    (hn : TN ≠ "__name__" := by decide) (hdb : (TN == ("__debug__" : Str)) = false := by decide)
    (hs : starEach [e, .Name TN p2] X.env = (false, eval e X.env) :: starEach [.Name TN p2] X.env := by rfl) (hs2 : starEach [.Name TN p2] X.env = (false, eval (.Name TN p2) X.env) :: starEach [] X.env := by rfl) (hpl : (backTo pos (starEach [.Name TN p2] X.env)).any (·.1) = false := by rfl) :
    DE X W (.Call (.Name "isinstance" p) [e, .Name TN p2] [] pos) (dIsi T fa) :=
  pe_weak (pe_callB call_isi hg hm (by decide +kernel) (pa_cons he (pa_cons (pe_bltn (v := .ty T) hgT hmT hT rfl hn hdb) pa_nil hs2) hs) (by decide) (by decide) hs hpl) fun σ H Q ⟨io, S, env, r, S', rs, re, hf, hE⟩ =>
    tG_bind rs re hf hE fun a S1 io1 H1 v e1 rs1 re1 rv1 h1 hE1 => by
      split at h1
      · rename_i n hn
        split at h1
        · rename_i b hb
          cases h1
          exact ⟨v, .ty T, .type n, .type T, b, rfl, .ty T, ty_X rs1 rv1 hn, kit_ty hb, hE1.now rs1 mBl⟩
        · cases h1
      · cases h1

/-! ### methods of built-in types -/
def tyM (T : String) (d : D) (S : Sto) : Bool := match d with
  | .str _ => T == "str"
  | .int _ => T == "int"
  | .ref n => T == "list" && (seqOf (.ref n) S).isSome
  | _ => false
theorem tyM_V {K : PySem.W.Frag} {io : List Addr} {H : Hp} {S : Sto} {d : D} {v : V} {T : String} (rs : RS K io S H) (r : RV K io H d v) (h : tyM T d S = true) : tyV K T v H := by
  cases d with
  | str x => rw [sStr r]; exact beq_iff_eq.mp h
  | int x => rw [sIntII r]; exact beq_iff_eq.mp h
  | ref n =>
    simp only [tyM, Bool.and_eq_true] at h
    obtain ⟨h1, h2⟩ := h
    obtain ⟨ds, hs⟩ := Option.isSome_iff_exists.mp h2
    obtain ⟨a, vs, rfl, _, e2, _⟩ := rs.seq (seq_ref hs) r
    exact .inl ⟨beq_iff_eq.mp h1, vs, e2⟩
  | _ => cases h
def dM (T : String) (g : D → List D → Sto → Option (D × Sto)) (fo : Ev → Sto → Ans D) (fs : Ev → Sto → Ans (List D)) : Ev → Sto → Ans D := fun env S =>
  bindR (fo env S) fun a S1 => if tyM T a S1 = true then bindR (fs env S1) fun ds S2 => okO (g a ds S2) else none
section
variable {o e : Expr} {es : List Expr} {name : Str} {apos cpos : Pos} {T id : String} {W : XK} {fo : Ev → Sto → Ans D} {fs : Ev → Sto → Ans (List D)} {g : D → List D → Sto → Option (D × Sto)}
theorem d_m0 (pa : PlainAttrs T) (slot : Slot T name id) (hty : typeOf (.builtin id) = pure (.type "method_descriptor")) (hm : MtD X id g) (ho : DE X W o fo)
    (hbase : attributeBase o name X.env (eval o X.env) = eval o X.env := by rfl) (hline : (apos.endLine == cpos.line) = true := by rfl) : DE X W (.Call (.Attribute o name apos) [] [] cpos) (dM T g fo dNil) :=
  pe_weak (pe_bm0 pa slot hty hm ho hbase hline) fun σ H Q ⟨io, S, env, r, S', rs, re, hf, hE⟩ => tG_bind rs re hf hE fun a S1 io1 H1 v e1 rs1 re1 rv1 h1 hE1 => by
    split at h1
    · rename_i ht
      obtain ⟨d, h2, rfl⟩ := okO_some (show okO (g a [] S1) = _ from h1)
      exact ⟨tyM_V rs1 rv1 ht, io1, S1, a, [], d, S', rs1, rv1, RVs.nil, h2, hE1⟩
    · cases h1
theorem d_m (pa : PlainAttrs T) (slot : Slot T name id) (hty : typeOf (.builtin id) = pure (.type "method_descriptor")) (hm : MtD X id g) (ho : DE X W o fo) (ha : DA X W (e :: es) fs)
    (hbase : attributeBase o name X.env (eval o X.env) = eval o X.env := by rfl)
    (hfew : ((backTo cpos (starEach (e :: es) X.env)).all (fun x => !x.1) && (backToKw cpos (keywordEach [] X.env)).all (fun x => x.1.isSome)
      && decide ((e :: es).length + ([] : List Keyword).length + (if ([] : List Keyword).isEmpty then 0 else 1) < 30)) = true := by rfl)
    (hline : (apos.endLine == cpos.line) = true := by rfl) (hs : starEach (e :: es) X.env = (false, eval e X.env) :: starEach es X.env := by rfl) (hplain : (backTo cpos (starEach es X.env)).any (·.1) = false := by rfl) :
    DE X W (.Call (.Attribute o name apos) (e :: es) [] cpos) (dM T g fo fs) :=
  pe_weak (pe_bm pa slot hty hm ho ha hbase hfew hline hs hplain) fun σ H Q ⟨io, S, env, r, S', rs, re, hf, hE⟩ => tG_bind rs re hf hE fun a S1 io1 H1 v e1 rs1 re1 rv1 h1 hE1 => by
    split at h1
    · rename_i ht
      refine ⟨tyM_V rs1 rv1 ht, tG_bind rs1 re1 h1 hE1 fun ds S2 io2 H2 w e2 rs2 re2 rv2 h2 hE2 => ?_⟩
      obtain ⟨d, h2, rfl⟩ := okO_some h2
      exact ⟨io2, S2, a, ds, d, S', rs2, RV.mono e2 _ _ rv1, rv2, by assumption, hE2⟩
    · cases h1
end
def mAppend : D → List D → Sto → Option (D × Sto)
  | .ref n, [d], S => match S[n]? with
    | some (.lst ds) => if ds.length < sizeLine then some (.non, S.set n (.lst (ds ++ [d]))) else none
    | _ => none
  | _, _, _ => none
theorem m_append : MtD X "list.append" mAppend := by
  intro pins s σ H x xs v us Q I rx r h
  obtain ⟨io, S, a, ds, d, S', rs, r1, r2, hg, q⟩ := h
  unfold mAppend at hg
  split at hg
  · split at hg
    · rename_i es hs
      split at hg
      · rename_i hz
        cases hg
        obtain ⟨p, vs, rfl, e1, e2, e3⟩ := rs.lst hs r1
        obtain ⟨w, rfl, r3⟩ := rvs1 r2
        obtain ⟨rs', ex⟩ := rs.write hs e1 (e3.append (RVs.one r3))
        exact mt_append pins s σ H _ _ v us Q I rx r ⟨p, vs, w, rfl, rfl, e2, by rw [← e3.length]; exact hz, q io _ _ ex rs' mNon⟩
      · cases hg
    · cases hg
  · cases hg
def mPop : D → List D → Sto → Option (D × Sto)
  | .ref n, [], S => match S[n]? with
    | some (.lst ds) => match ds[ds.length - 1]? with
      | some d => some (d, S.set n (.lst ds.dropLast))
      | none => none
    | _ => none
  | _, _, _ => none
theorem RVs.dropLast {K : PySem.W.Frag} {io : List Addr} {H : Hp} {ds : List D} {vs : List V} (h : RVs K io H ds vs) : RVs K io H ds.dropLast vs.dropLast := by
  rw [List.dropLast_eq_take, List.dropLast_eq_take, h.length]
  exact h.take _
theorem m_pop : MtD X "list.pop" mPop := by
  intro pins s σ H x xs v us Q I rx r h
  obtain ⟨io, S, a, ds, d, S', rs, r1, r2, hg, q⟩ := h
  unfold mPop at hg
  split at hg
  · split at hg
    · rename_i es hs
      split at hg
      · rename_i d hd
        cases hg
        obtain ⟨p, vs, rfl, e1, e2, e3⟩ := rs.lst hs r1
        have : xs = [] := by simpa [RVs] using r2
        subst this
        obtain ⟨w, w1, w2⟩ := e3.get hd
        obtain ⟨rs', ex⟩ := rs.write hs e1 e3.dropLast
        exact mt_pop pins s σ H _ _ v us Q I rx r ⟨p, vs, w, rfl, rfl, e2, by rw [← e3.length]; exact w1, q io _ _ ex rs' (RV.mono ex _ _ w2)⟩
      · cases hg
    · cases hg
  · cases hg
end
end DL
namespace DL
open PySem PySem.Spec PyProof.Rows L2 RT RZ

/-! ### what lies behind in the store is dropped -/
mutual
def D.clB (n : Nat) : D → Bool
  | .ref m => decide (m < n)
  | .tup l => D.clBs n l
  | _ => true
def D.clBs (n : Nat) : List D → Bool
  | [] => true
  | d :: ds => D.clB n d && D.clBs n ds
end
def O.items : O → List D
  | .lst l => l
  | .rol l => l
def O.clB (n : Nat) (o : O) : Bool := D.clBs n o.items
def ClS (S : Sto) : Prop := ∀ o ∈ S, o.clB S.length = true
def R.clB (n : Nat) : R D → Bool
  | .ok d => d.clB n
  | .ex e => match e.args with
    | none => true
    | some fs => D.clBs n (fs.map (·.2))
section
variable {K : PySem.W.Frag} {mg : Str → Option Value} {io io' : List Addr} {H H' : Hp} {S S' T : Sto}
mutual
theorem RV.cl : ∀ (d : D) (v : V), RV K io H d v → d.clB io.length = true
  | .non, _, _ => rfl
  | .bl _, _, _ => rfl
  | .int _, _, _ => rfl
  | .str _, _, _ => rfl
  | .tup l, v, h => by
    unfold RV at h
    obtain ⟨a, vs, _, _, h⟩ := h
    exact RVs.cl l vs h
  | .ref m, v, h => by
    unfold RV at h
    obtain ⟨a, h, _⟩ := h
    exact decide_eq_true (List.getElem?_eq_some_iff.mp h).1
theorem RVs.cl : ∀ (ds : List D) (vs : List V), RVs K io H ds vs → D.clBs io.length ds = true
  | [], _, _ => rfl
  | d :: ds, _, h => by
    unfold RVs at h
    obtain ⟨v, r, _, h1, h2⟩ := h
    unfold D.clBs
    rw [RV.cl d v h1, RVs.cl ds r h2]
    rfl
end
mutual
theorem RV.cut {n : Nat} : ∀ (d : D) (v : V), RV K io H d v → d.clB n = true → RV K (io.take n) H d v
  | .non, _, h, _ => by simpa [RV] using h
  | .bl _, _, h, _ => by simpa [RV] using h
  | .int _, _, h, _ => by simpa [RV] using h
  | .str _, _, h, _ => by simpa [RV] using h
  | .tup l, v, h, c => by
    unfold RV at h ⊢
    obtain ⟨a, vs, e1, e2, h⟩ := h
    exact ⟨a, vs, e1, e2, RVs.cut l vs h c⟩
  | .ref m, v, h, c => by
    unfold RV at h ⊢
    obtain ⟨a, h, e⟩ := h
    have hm : m < n := of_decide_eq_true c
    exact ⟨a, by rw [List.getElem?_take_of_lt hm]; exact h, e⟩
theorem RVs.cut {n : Nat} : ∀ (ds : List D) (vs : List V), RVs K io H ds vs → D.clBs n ds = true → RVs K (io.take n) H ds vs
  | [], _, h, _ => by simpa [RVs] using h
  | d :: ds, _, h, c => by
    unfold RVs at h ⊢
    unfold D.clBs at c
    simp only [Bool.and_eq_true] at c
    obtain ⟨v, r, e, h1, h2⟩ := h
    exact ⟨v, r, e, RV.cut d v h1 c.1, RVs.cut ds r h2 c.2⟩
end
theorem RS.cls (h : RS K io S H) : ClS S := fun o ho => by
  obtain ⟨n, hn, e⟩ := List.getElem_of_mem ho
  have e1 : S[n]? = some o := by rw [List.getElem?_eq_getElem hn, e]
  have hn' : n < io.length := by rw [h.len]; exact hn
  have q := h.obj n o io[n] e1 (List.getElem?_eq_getElem hn')
  cases o with
  | lst ds =>
    obtain ⟨vs, _, q⟩ := q
    have := RVs.cl ds vs q
    rw [h.len] at this
    exact this
  | rol ds =>
    obtain ⟨vs, _, q⟩ := q
    have := RVs.cl ds vs q
    rw [h.len] at this
    exact this
theorem RS.cut (h : RS K io (S ++ T) H) (c : ClS S) : RS K (io.take S.length) S H := by
  have hl : S.length ≤ io.length := by rw [h.len, List.length_append]; omega
  have g : ∀ {n : Nat} {o : O}, S[n]? = some o → (S ++ T)[n]? = some o := fun {n o} e => by
    rw [List.getElem?_append_left (List.getElem?_eq_some_iff.mp e).1]
    exact e
  have gi : ∀ {n : Nat} {a : Addr}, (io.take S.length)[n]? = some a → io[n]? = some a := fun {n a} e => by
    have hn : n < S.length := by
      have := (List.getElem?_eq_some_iff.mp e).1
      rw [List.length_take] at this
      omega
    rw [List.getElem?_take_of_lt hn] at e
    exact e
  refine ⟨by rw [List.length_take]; omega, fun n o a e1 e2 => ?_, fun m n a o u e1 e2 e3 e4 => h.inj m n a o u (gi e1) (gi e2) (g e3) (g e4)⟩
  have q := h.obj n o a (g e1) (gi e2)
  have cl := c o (List.mem_of_getElem? e1)
  cases o with
  | lst ds =>
    obtain ⟨vs, q1, q⟩ := q
    exact ⟨vs, q1, RVs.cut ds vs q cl⟩
  | rol ds =>
    obtain ⟨vs, q1, q⟩ := q
    exact ⟨vs, q1, RVs.cut ds vs q cl⟩
theorem Ext.cut {n : Nat} (e : Ext K io H io' H') (h : io.length ≤ n) : Ext K io H (io'.take n) H' := by
  obtain ⟨⟨t, rfl⟩, e⟩ := e
  exact ⟨⟨t.take (n - io.length), by rw [List.take_append, List.take_of_length_le h]⟩, e⟩
end
/-- c says what m does, but for what lies behind -/
def Cleans (m c : Mir) : Prop := ∀ ds S r S', c ds S = some (r, S') → m ds S = some (r, S') ∨ ∃ T, m ds S = some (r, S' ++ T) ∧ S.length ≤ S'.length ∧ ClS S' ∧ r.clB S'.length = true
open Classical in
/-- what a call leaves behind is dropped where nothing hangs on it -/
noncomputable def gc (m : Mir) : Mir := fun ds S => match m ds S with
  | some (r, S') => if ClS (S'.take S.length) ∧ r.clB S.length = true ∧ S.length ≤ S'.length then some (r, S'.take S.length) else some (r, S')
  | none => none
theorem gc_ok (m : Mir) : Cleans m (gc m) := fun ds S r S' e => by
  unfold gc at e
  cases h : m ds S with
  | none => rw [h] at e; cases e
  | some p =>
    obtain ⟨r1, S1⟩ := p
    rw [h] at e
    simp only at e
    split at e
    · rename_i hc
      cases e
      have hl : (S1.take S.length).length = S.length := by rw [List.length_take]; omega
      exact .inr ⟨S1.drop S.length, by rw [List.take_append_drop], by omega, hc.1, by rw [hl]; exact hc.2.1⟩
    · cases e
      exact .inl rfl
theorem gc_eq {m : Mir} {ds : List D} {S S' T : Sto} {r : R D} (h : m ds S = some (r, S' ++ T)) (hl : S'.length = S.length) (hc : ClS S') (hr : r.clB S.length = true) : gc m ds S = some (r, S') := by
  unfold gc
  rw [h]
  have e : (S' ++ T).take S.length = S' := by rw [← hl]; exact List.take_left' rfl
  simp only
  rw [if_pos ⟨by rw [e]; exact hc, hr, by rw [List.length_append]; omega⟩, e]
theorem Cleans.imp {K : PySem.W.Frag} {mg : Str → Option Value} {m c : Mir} (h : Cleans m c) (vs : List V) (H : Hp) (Q : VK) (E : XK) (q : spM K mg c vs H Q E) : spM K mg m vs H Q E := by
  obtain ⟨io, S, ds, r, S', rs, rv, hc, hE⟩ := q
  rcases h ds S r S' hc with hm | ⟨T, hm, hl, cS, cr⟩
  · exact ⟨io, S, ds, r, S', rs, rv, hm, hE⟩
  refine ⟨io, S, ds, r, S' ++ T, rs, rv, hm, ?_⟩
  have hio : io.length ≤ S'.length := by rw [rs.len]; exact hl
  cases r with
  | ok d => exact fun io' H' v ex rs' rv' => hE _ H' v (ex.cut hio) (rs'.cut cS) (RV.cut d v rv' cr)
  | ex e =>
    refine fun io' H' c dd ex rs' rx => hE _ H' c dd (ex.cut hio) (rs'.cut cS) ⟨rx.1, ?_⟩
    have rx2 := rx.2
    unfold R.clB at cr
    split at rx2
    · exact rx2
    · rename_i fs ha
      simp only [ha] at cr
      obtain ⟨d, ws, e1, e2, e3, e4⟩ := rx2
      exact ⟨d, ws, e1, e2, e3, RVs.cut _ _ e4 cr⟩
/-- the law's own promise -/
def spLaw (K : PySem.W.Frag) : Sp := fun vs H Q _ => ∃ (a : Addr) (ns : List Int), vs = [.ref a] ∧ ns.length ≤ 63 ∧ Only H ∧ SqL K H a (ns.map V.int) ∧ ∀ H', Q (.bl true) H'
theorem intsRV {K : PySem.W.Frag} {io : List Addr} {H : Hp} : ∀ (ns : List Int), RVs K io H (ns.map D.int) (ns.map V.int)
  | [] => RVs.nil
  | n :: ns => RVs.cons mInt (intsRV ns)
theorem spM_law {K : PySem.W.Frag} {mg : Str → Option Value} {m : Mir} {a : Addr} {ns : List Int} {S' : Sto} {H : Hp} {Q : VK} {E : XK} (hm : m [.ref 0] [.rol (ns.map D.int)] = some (.ok (.bl true), S')) (ho : Only H) (hS : SqL K H a (ns.map V.int)) (q : ∀ H', Q (.bl true) H') : spM K mg m [.ref a] H Q E := by
  have hr : ROL K H a (ns.map V.int) := by
    rcases hS with (hS | hS) | hS
    · rcases ho a with z | ⟨o, xs, z⟩
      · rw [z] at hS; cases hS
      · rw [z] at hS; cases hS
    · exact .inl hS
    · exact .inr hS
  refine ⟨[a], [.rol (ns.map D.int)], [.ref 0], _, S', ⟨rfl, fun n o b e1 e2 => ?_, fun m n b o u e1 e2 e3 e4 m1 m2 => ?_⟩, RVs.one (by unfold RV; exact ⟨a, rfl, rfl⟩), hm, fun io' H' v _ _ rv => ?_⟩
  · match n with
    | 0 =>
      cases e1
      cases e2
      exact ⟨_, hr, intsRV ns⟩
    | n + 1 => simp at e1
  · match m with
    | 0 =>
      cases e3
      cases m1
    | m + 1 => simp at e3
  · rw [sBl rv]
    exact q H'
theorem spLaw_imp {K : PySem.W.Frag} {mg : Str → Option Value} {m : Mir} (h : ∀ ns : List Int, ns.length ≤ 63 → ∃ S', m [.ref 0] [.rol (ns.map D.int)] = some (.ok (.bl true), S')) (vs : List V) (H : Hp) (Q : VK) (E : XK) (q : spLaw K vs H Q E) : spM K mg m vs H Q E := by
  obtain ⟨a, ns, rfl, hl, ho, hS, q⟩ := q
  obtain ⟨S', hm⟩ := h ns hl
  exact spM_law hm ho hS q
/-- the same for a law that looks at its numbers: none of them is too great -/
def spLawB (K : PySem.W.Frag) : Sp := fun vs H Q _ => ∃ (a : Addr) (ns : List Int), vs = [.ref a] ∧ ns.length ≤ 63 ∧ (∀ z ∈ ns, Builtin.Int.intBits z ≤ 1048576) ∧ Only H ∧ SqL K H a (ns.map V.int) ∧ ∀ H', Q (.bl true) H'
theorem spLaw_impB {K : PySem.W.Frag} {mg : Str → Option Value} {m : Mir} (h : ∀ ns : List Int, ns.length ≤ 63 → (∀ z ∈ ns, Builtin.Int.intBits z ≤ 1048576) → ∃ S', m [.ref 0] [.rol (ns.map D.int)] = some (.ok (.bl true), S')) (vs : List V) (H : Hp) (Q : VK) (E : XK) (q : spLawB K vs H Q E) : spM K mg m vs H Q E := by
  obtain ⟨a, ns, rfl, hl, hz, ho, hS, q⟩ := q
  obtain ⟨S', hm⟩ := h ns hl hz
  exact spM_law hm ho hS q
/-- a def that can be called, and what it does -/
structure Cal (P : Program) (w : World) (K : PySem.W.Frag) (mg : Str → Option Value) (base : Heap) (x : Str) (k : Nat) (ps : List Str) (m : Mir) : Prop where
  ex : ∃ (a : Addr) (fd : FuncData), FnOk P w K mg base (L2.CX P w) k a fd ps (spM K mg m) ∧ mg x = some (.ref a) ∧ PySem.W.keepIn K (.ref a) = true ∧ Binds K fd ps []
theorem Cal.clean {P : Program} {w : World} {K : PySem.W.Frag} {mg : Str → Option Value} {base : Heap} {x : Str} {k : Nat} {ps : List Str} {m c : Mir} (C : Cal P w K mg base x k ps m) (h : Cleans m c) : Cal P w K mg base x k ps c := by
  obtain ⟨a, fd, F, r⟩ := C.ex
  exact ⟨a, fd, F.imp h.imp, r⟩
theorem cal_mk {P : Program} {w : World} {K : PySem.W.Frag} {mg : Str → Option Value} {base : Heap} {x q : Str} {st : Stmt} {a : Addr} {fd : FuncData} {k : Nat} {ps : List Str} {m : Mir} (F : Fun K x q st a fd) (g : mg x = some (.ref a)) (h : FnOk P w K mg base (L2.CX P w) k a fd ps (spM K mg m)) (b : Binds K fd ps []) : Cal P w K mg base x k ps m := ⟨a, fd, h, g, F.kp, b⟩
section
variable {X : Cx} {W : XK} {ps : List Str} {k : Nat} {m : Mir} {x : Str} {p pos : Pos} {e : Expr} {es : List Expr} {fs : Ev → Sto → Ans (List D)}
theorem d_cal (C : Cal X.prog X.w X.K X.mg X.base x k ps m) (hr : Room k X.A) (hg : Gl X x) (hx : Passes (L2.CX X.prog X.w) X W) (ha : DA X W (e :: es) fs) (hdb : (x == ("__debug__" : Str)) = false := by decide) (he : starEach (e :: es) X.env = (false, eval e X.env) :: starEach es X.env := by rfl) (hpl : (backTo pos (starEach es X.env)).any (·.1) = false := by rfl) :
    DE X W (.Call (.Name x p) (e :: es) [] pos) (dCall m fs) := by
  obtain ⟨a, fd, F, g, kp, b⟩ := C.ex
  exact d_call F hr hg g kp b hx ha hdb he hpl
theorem d_cal0 (C : Cal X.prog X.w X.K X.mg X.base x k ps m) (hr : Room k X.A) (hg : Gl X x) (hx : Passes (L2.CX X.prog X.w) X W) (hdb : (x == ("__debug__" : Str)) = false := by decide) : DE X W (.Call (.Name x p) [] [] pos) (dCall m dNil) := by
  obtain ⟨a, fd, F, g, kp, b⟩ := C.ex
  exact d_call0 F hr hg g kp b hx hdb
end
theorem passX {P : Program} {w : World} {K : PySem.W.Frag} {mg : Str → Option Value} {base : Heap} {N : List Str} {qual : Str} {scope : Scope} {f : Addr} {cd : Value} {A : Around} {outer : List Env} {s : Shared} {H : Hp} {E : XK} :
    Passes (L2.CX P w) (cxOf (L2.CX P w) P w K mg base N qual scope f cd A outer s H E) E := passes_call (W := fun c d _ H => E c d H) (takes_of rfl rfl rfl rfl) fun _ _ _ _ h => h
theorem cxF {P : Program} {w : World} {o : List Env} {H : Hp} {s : Shared} {e : Value} {s' : Shared} (h : L2.CX P w o H s (fun _ _ _ => False) e s') : False := by
  obtain ⟨_, _, _, _, _, _, _, _, _, _, _, _, z⟩ := h
  exact z
/-! an item of a list for o[i] op= e -/
section
variable {X : Cx}
theorem o_itemL : OpD X getItem gIxL := by
  intro pins s σ H x y v u Q I rx ry h
  obtain ⟨io, S, a, b, d, S', rs, r1, r2, hg, q⟩ := h
  unfold gIxL at hg
  split at hg
  · split at hg
    · rename_i ds hs
      split at hg
      · rename_i e he
        split at hg
        · rename_i h0
          cases hg
          obtain ⟨p, vs, rfl, _, e2, e3⟩ := rs.seq (seq_ref hs) r1
          obtain ⟨w, w1, w2⟩ := e3.at he
          have := sIntII r2
          subst this
          cases rx
          obtain ⟨t, rfl⟩ := ry
          obtain ⟨its, r, pl, hz⟩ := I.list e2
          obtain ⟨j, h1, h2, h3, h4, h5⟩ := atI_get w1
          obtain ⟨u, eu, ru⟩ := r.get h2
          have hn := line63
          rw [seqIndex_of h0 h5] at h1
          have hj := Option.some.inj h1
          exact wpAny_getItem_list pl.isList h0 (by omega) (by rw [hj]; simpa using eu) ⟨w, H, I, ru, q io H _ Ext.refl rs w2⟩
        · cases hg
      · cases hg
    · cases hg
  · cases hg
end
end DL
namespace DL
open PySem PySem.Spec PyProof.Rows L2 RT RZ
def gNeg : D → Sto → Option (D × Sto)
  | .int i, S => some (.int (-i), S)
  | _, _ => none
theorem u_neg {X : Cx} : UnD X (unaryOp .USub) gNeg := by
  intro pins s σ H x v Q I rx h
  obtain ⟨io, S, a, d, S', rs, r1, hg, q⟩ := h
  unfold gNeg at hg
  split at hg
  · cases hg
    exact un_neg pins s σ H x v Q I rx ⟨_, sIntII r1, q io H _ Ext.refl rs mInt⟩
  · cases hg
/-! ### enumerate of a tuple -/
section
open AutoSeq1 (wpAny_loadPart')
theorem meets_enumerate_newT (l : Addr) (items : Array Value) (n : Nat) (dct : Option Addr) (sl : Array (Option Value)) :
    Meets (Builtin.«enumerate.__new__» ⟨[.type "enumerate", .ref l], []⟩) (fun _ R s => s.heap.get? l = some { cls := .type "tuple", dict := dct, data := .seq items n, slots := sl } ∧
      R (.ok (.ret (.ref (s.heap.push { cls := .type "tuple_iterator", data := .fields #[.ref l, .int 0 0] }).objs.size)))
        { s with heap := (s.heap.push { cls := .type "tuple_iterator", data := .fields #[.ref l, .int 0 0] }).push { cls := .type "enumerate", data := .fields #[.none, .bool false, .ref s.heap.objs.size, rawInt 0, .none, .none] } }) :=
  .of_wp fun prog w A R s h => by
    obtain ⟨hp, g, d, tk, os⟩ := s; obtain ⟨hl, h⟩ := h
    have hsub := sub_enumerate
    have hL : Heap.IsTuple (Shared.heap ⟨hp, g, d, tk, os⟩) l items := ⟨_, hl, rfl, n, rfl⟩
    wp_walk using wpAny_loadPart' hl
    refine wpAny_stack_any fun st => wpAny_pure ?_
    split
    · rename_i c _ _ _ _ _
      cases (c == Value.type "enumerate")
      · wp_walk using wpAny_loadPart' hl, wpAny_pyIter_tuple hL
        exact ⟨_, rfl, h⟩
      · wp_walk using wpAny_loadPart' hl, wpAny_pyIter_tuple hL
        exact ⟨_, rfl, h⟩
    · wp_walk using wpAny_loadPart' hl, wpAny_pyIter_tuple hL
      exact ⟨_, rfl, h⟩
section
variable {prog : Program} {w : World} {A : Around} {E : Value → Shared → Prop} {s : Shared}
theorem call_enumerate_tuple {l : Addr} {items : Array Value} {Q : Value → Shared → Prop} (hL : s.heap.IsTuple l items)
    (h : ∀ h', IsEnum h' (s.heap.objs.size + 1) s.heap.objs.size 0 .none → h'.IsTupleIter s.heap.objs.size l 0 → h'.objs.size = s.heap.objs.size + 2 →
      (∀ b o, s.heap.get? b = some o → h'.get? b = some o) → Q (.ref (s.heap.objs.size + 1)) { s with heap := h' }) :
    wpAny (model prog w) A (call (.type "enumerate") [.ref l]) Q E s := by
  obtain ⟨⟨c, dct, dt, sl⟩, hl, hc, n, hd⟩ := hL
  replace hc : c = .type "tuple" := hc
  replace hd : dt = .seq items n := hd
  subst hc hd
  refine callType_new F.called_enumerate (by decide) (F.typeCall_enumerate_1 _) (F.newCall_enumerate_1 _) (fun obj => F.args_object_init_2 obj _) F.entry_enumerate_new
    (meets_enumerate_newT l items n dct sl) ⟨hl, ?_⟩
  have hz : (s.heap.push { cls := .type "tuple_iterator", data := .fields #[.ref l, .int 0 0] }).objs.size = s.heap.objs.size + 1 := Heap.size_push ..
  show _ ∧ _
  rw [hz]
  have he : IsEnum ((s.heap.push { cls := .type "tuple_iterator", data := .fields #[.ref l, .int 0 0] }).push
      { cls := .type "enumerate", data := .fields #[.none, .bool false, .ref s.heap.objs.size, rawInt 0, .none, .none] }) (s.heap.objs.size + 1) s.heap.objs.size 0 .none := by
    have := Heap.get?_push_size (s.heap.push { cls := .type "tuple_iterator", data := .fields #[.ref l, .int 0 0] })
      (o := { cls := .type "enumerate", data := .fields #[.none, .bool false, .ref s.heap.objs.size, rawInt 0, .none, .none] }) rfl
    rw [hz] at this; exact this
  refine ⟨⟨_, he, rfl⟩, h _ he ⟨_, Heap.get?_push_of_some _ (Heap.get?_push_size _ rfl), rfl, rfl⟩ (by rw [Heap.size_push, hz]) fun b o x => Heap.get?_push_of_some _ (Heap.get?_push_of_some _ x)⟩
end
end
/-- the tuple at a, each item in a new pair -/
def IteT (K : PySem.W.Frag) (a : Addr) : It :=
  ⟨fun i H => ∃ (xs : List V) (x : V), SqT K H a xs ∧ xs[i]? = some x, fun i H v H' => ∃ T x, v = .ref T ∧ H T = none ∧ H' = upd H T (.tup [.int (i : Nat), x]) ∧ ∀ xs, SqT K H a xs → xs[i]? = some x, fun i H => ∃ xs : List V, SqT K H a xs ∧ xs.length ≤ i⟩
theorem turn_enumT {P : Program} {w : World} {K : PySem.W.Frag} {elts : List Expr} {kk : Nat} {tpos : Pos} (a e it : Addr) :
    Turn P w K (.Tuple elts kk tpos) (IteT K a) [e, it] e (fun i h => (∃ old, IsEnum h e it ((i : Nat) : Int) old) ∧ h.IsTupleIter it a i ∧ e ≠ it) where
  mem := by simp
  obj := fun i h st b hb => by
    obtain ⟨⟨old, he⟩, ⟨o, ho, hc, hd⟩, _⟩ := st
    have e' : b = e ∨ b = it := by simpa using hb
    rcases e' with z | z
    · rw [z]; exact ⟨_, he, fun v q => nomatch q⟩
    · rw [z]; exact ⟨o, ho, fun v q => by rw [hd] at q; cases q⟩
  keep := fun i h h' st k => let ⟨⟨old, he⟩, hi, hne⟩ := st; ⟨⟨old, k e (by simp) _ he⟩, hi.at fun o q => k it (by simp) o q, hne⟩
  item := by
    intro X hP hw hK hc i pins s σ H E I hf st hg
    subst hP hw hK
    obtain ⟨⟨old, he⟩, hit, hne⟩ := st
    obtain ⟨xs, x, hq, hx⟩ := hg
    obtain ⟨its, rv, p, hz⟩ := I.tuple hq
    obtain ⟨u, hu, ru⟩ := rv.get hx
    have hel : e < s.heap.objs.size := Heap.lt_size he
    have hil : it < s.heap.objs.size := by obtain ⟨_, q, _⟩ := hit; exact Heap.lt_size q
    have nai : a ≠ it := fun z => by
      obtain ⟨o1, h1, c1, _⟩ := hit
      obtain ⟨o2, h2, c2, _⟩ := p
      rw [z, h1] at h2
      cases h2
      rw [c1] at c2
      exact absurd c2 (by decide)
    have nea : e ≠ a := fun z => by
      obtain ⟨o2, h2, c2, _⟩ := p
      rw [← z, he] at h2
      cases h2
      have c3 : Value.type "enumerate" = Value.type "tuple" := c2
      exact absurd c3 (by decide)
    have D : Draws X.prog X.w X.A.in1 it [it, a] its.toArray.size (fun i v => its.toArray[i]? = some v) (fun i h => h.IsTupleIter it a i ∧ h.IsTuple a its.toArray) := Draws.tuple (A := X.A.in1) (I.ok.hd hc) it a nai its.toArray
    have hu' : its.toArray[i]? = some u := by simpa using hu
    refine wpAny_pyNext_enum_itemD D he ⟨hit, p⟩ (Array.getElem?_eq_some_iff.mp hu').1 hne (by simp [hne, nea]) fun u' h' tk hu2 ho hit' hT hsz hk => ?_
    rw [hu'] at hu2
    cases hu2
    refine ⟨_, rfl, wpAny_letOwnedTupleGo_enum (s := { s with heap := h', toks := tk + 1 }) ho fun h'' he' sb => ?_⟩
    have hT2 : h''.get? s.heap.objs.size = some { cls := .type "tuple", data := .seq #[.int i tk, u] } := (sb.2 _ (Nat.ne_of_gt hel)).trans hT
    have new : ObjOk X.prog X.w (upd H s.heap.objs.size (.tup [.int (i : Nat), x])) h'' s.heap.objs.size (.tup [.int (i : Nat), x]) :=
      ⟨by show 2 ≤ sizeLine; decide, [.int i tk, u], .cons ⟨_, rfl⟩ (.cons ru .nil), ⟨_, hT2, rfl, _, rfl⟩⟩
    have I1 : Inv X pins σ (upd H s.heap.objs.size (.tup [.int (i : Nat), x])) { s with heap := h'', toks := tk + 1 } :=
      I.turnedNew (ch := [e, it]) (fun b ob hb q => (sb.2 b (fun z => hb (by simp [z]))).trans (hk b ob (fun z => hb (by simp [z])) (fun z => hb (by simp [z])) q)) hf (Nat.le_refl _) new
    refine ⟨.ref s.heap.objs.size, _, I1, rfl, ⟨_, x, rfl, I.hok.fresh (Nat.le_refl _), rfl, fun ys hy => by rw [I.tuple_inj hy hq]; exact hx⟩, ⟨⟨u, ?_⟩, hit'.1.at fun o q => (sb.2 it (Ne.symm hne)).trans q, hne⟩, fun b hb => ?_⟩
    · have e1 : ((i + 1 : Nat) : Int) = (i : Int) + 1 := by omega
      rw [e1]; exact he'
    · have hb' : b < s.heap.objs.size := by
        have e' : b = e ∨ b = it := by simpa using hb
        rcases e' with z | z
        · rw [z]; exact hel
        · rw [z]; exact hil
      rw [upd_ne (Nat.ne_of_lt hb')]
      exact (hf b hb).1
  done := by
    intro X hP hw hK hc i pins s σ H E I hf st hg
    subst hP hw hK
    obtain ⟨⟨old, he⟩, hit, hne⟩ := st
    obtain ⟨xs, hq, hx⟩ := hg
    obtain ⟨its, rv, p, hz⟩ := I.tuple hq
    obtain ⟨f0, f1, f2, f3, f4, f5⟩ := hf it (by simp)
    have hl := rv.length
    have nai : a ≠ it := fun z => by
      obtain ⟨o1, h1, c1, _⟩ := hit
      obtain ⟨o2, h2, c2, _⟩ := p
      rw [z, h1] at h2
      cases h2
      rw [c1] at c2
      exact absurd c2 (by decide)
    have hend : its.toArray[i]? = none := by simp; omega
    have hT : s.TypeIs (.ref e) "enumerate" := ⟨_, he, rfl⟩
    unfold pyNext
    refine wpAny_bind (wpAny_attempt (wpAny_callSpecial?_slot (name := Str.ofString "__next__") hT F.slot_enumerate_next
      (wpAny_call_entry F.slot_enumerate_next hT F.entry_enumerate_next ?_ (F.args_enumerate_next_1 _))))
    show wpAny _ _ (field (.ref e) 2 >>= _) _ _ _
    refine wpAny_bind (wpAny_field he rfl (x := .ref it) rfl ?_)
    refine wpAny_bind (wpAny_nextOf_tuple_end (I.ok.hd hc) hit p hend fun h' x eb hx' => ?_)
    obtain ⟨o, ho, hc⟩ := hx'
    refine wpAny_bind (wpAny_isInstance (T := "StopIteration") (b := true) ⟨o, ho, hc⟩ isSubtype_stop ?_)
    exact wpAny_pure ⟨rfl, I.turned (t' := s.toks) (fun b o hb q => eb b o hb q) f0 f1 f3 f4 f5⟩
  self := fun A i s Q E st h => let ⟨⟨_, he⟩, _⟩ := st; wpAny_pyIter_enum he h
def iEnumT (K : PySem.W.Frag) (ta : TA) : TI := fun σ H R => ta σ H fun vs H1 => ∃ a xs, vs = [.ref a] ∧ SqT K H1 a xs ∧ R (IteT K a) H1
theorem pi_enumT {X : Cx} {e : Expr} {ta : TA} {p pos tpos : Pos} {elts : List Expr} {kk : Nat} (hg : Gl X "enumerate") (hm : X.mg "enumerate" = none) (ha : PA X [e] ta) (hs : starEach [e] X.env = [(false, eval e X.env)] := by rfl) :
    PI X (.Tuple elts kk tpos) (.Call (.Name "enumerate" p) [e] [] pos) (iEnumT X.K ta) := by
  refine ⟨fun pins s σ H R I h => ?_⟩
  refine Call_ (ld_blt I hg hm boot_enumerate (PyProof.Rows.callWith_type1 (thn (ha.run pos pins s σ H _ I h) fun us s1 ⟨vs, H1, I1, r1, q1⟩ => ?_) hs rfl))
  obtain ⟨a, xs, ex, hq, q⟩ := q1
  subst ex
  cases r1 with
  | cons r rr =>
    cases rr
    cases r
    obtain ⟨its, rv, p', hz⟩ := I1.tuple hq
    refine call_enumerate_tuple p' fun h' he hit hsz hk => wpAny_pyIter_enum he ?_
    have I2 : Inv X pins σ H1 { s1 with heap := h' } := I1.kept (t' := s1.toks) hk
    refine ⟨s1.heap.objs.size + 1, [s1.heap.objs.size + 1, s1.heap.objs.size], _, _, H1, rfl, I2, turn_enumT a (s1.heap.objs.size + 1) s1.heap.objs.size, ⟨⟨.none, he⟩, hit, Nat.succ_ne_self _⟩, fun b hb => ?_, q⟩
    have e' : b = s1.heap.objs.size + 1 ∨ b = s1.heap.objs.size := by simpa using hb
    have hle : s1.heap.objs.size ≤ b := by
      rcases e' with z | z
      · rw [z]; exact Nat.le_add_right _ _
      · rw [z]; exact Nat.le_refl _
    exact I1.fpOk hle (I1.hok.fresh hle)
theorem ItOk.enumT {K : PySem.W.Frag} {io : List Addr} {H : Hp} {a : Addr} {vs : List V} {ds : List D} (ok : Sto → Prop) (ha : SqT K H a vs) (hd : RVs K io H ds vs) : ItOk K io H ⟨ok, enumD ds⟩ (IteT K a) := fun i io' S' H' ex rs _ => by
  have e3 := ex.tup a vs ha
  have e4 := RVs.mono ex ds vs hd
  refine ⟨fun hi => ⟨vs, e3, by rw [← e4.length]; simpa [enumD] using hi⟩, fun x hx => ?_⟩
  have hx0 : (enumD ds)[i]? = some x := hx
  unfold enumD at hx0
  rw [List.getElem?_map, List.getElem?_zipIdx] at hx0
  cases hd : ds[i]? with
  | none => rw [hd] at hx0; cases hx0
  | some d =>
    rw [hd] at hx0
    cases hx0
    obtain ⟨v, h1, h2⟩ := e4.get hd
    refine ⟨⟨vs, v, e3, h1⟩, fun w H2 hy => ?_⟩
    obtain ⟨T, x, rfl, hT, rfl, hy⟩ := hy
    have := hy vs e3
    rw [h1] at this
    cases this
    refine ⟨io', Ext.fresh hT, rs.tupNew hT, ?_⟩
    have := tup2 (K := K) (a := .int ((i : Nat) : Int)) (x := .int ((i : Nat) : Int)) hT (by simp [RV]) h2
    simpa using this
def wEnumA (fs : Ev → Sto → Ans (List D)) : Ev → Sto → Ans Wk := fun env S => bindR (fs env S) fun ds S1 => match ds with
  | [d] => match seqOf d S1 with
    | some xs => some (.ok ⟨fun S => seqOf d S = some xs, enumD xs⟩, S1)
    | none => none
  | _ => none
section
variable {X : Cx} {W : XK} {e : Expr} {fs : Ev → Sto → Ans (List D)} {p pos tpos : Pos} {elts : List Expr} {kk : Nat}
/-- a list or a tuple -/
theorem di_enumA (hg : Gl X "enumerate") (hm : X.mg "enumerate" = none) (ha : DA X W [e] fs) (hf1 : ∀ env S ds S', fs env S = some (.ok ds, S') → ds.length = 1) (hs : starEach [e] X.env = [(false, eval e X.env)] := by rfl) : DI X W (.Tuple elts kk tpos) (.Call (.Name "enumerate" p) [e] [] pos) (wEnumA fs) :=
  pi_weak (pi_or (pi_enum hg hm ha hs) (pi_enumT hg hm ha hs)) fun σ H R ⟨io, S, env, r, S', rs, re, hf, hE⟩ => by
    unfold wEnumA at hf
    cases hd : fs env S with
    | none => rw [hd] at hf; cases hf
    | some q =>
      obtain ⟨ra, S1⟩ := q
      cases ra with
      | ex x =>
        rw [hd] at hf
        cases hf
        exact .inl ⟨io, S, env, _, _, rs, re, hd, hE⟩
      | ok ds =>
        obtain ⟨d, rfl⟩ := one_of (hf1 _ _ _ _ hd)
        by_cases ht : isTup d = true
        · refine .inr (tG_bind2 rs re hf hE fun d' S1' io1 H1 v hd' e1 rs1 re1 rv1 h1 hE1 => ?_)
          rw [hd] at hd'
          cases hd'
          obtain ⟨v, rfl, rv2⟩ := rvs1 rv1
          cases d with
          | tup ds =>
            unfold RV at rv2
            obtain ⟨a, vs, rfl, e2, e3⟩ := rv2
            cases h1
            exact ⟨a, vs, rfl, e2, hE1.now rs1 (ItOk.enumT _ e2 e3)⟩
          | _ => cases ht
        · refine .inl (tG_bind2 rs re hf hE fun d' S1' io1 H1 v hd' e1 rs1 re1 rv1 h1 hE1 => ?_)
          rw [hd] at hd'
          cases hd'
          obtain ⟨v, rfl, rv2⟩ := rvs1 rv1
          cases d with
          | ref n =>
            cases hs : seqOf (.ref n) S1 with
            | none => simp only [hs] at h1; cases h1
            | some xs =>
              simp only [hs] at h1
              cases h1
              obtain ⟨a, vs, rfl, e2, e3, e4⟩ := rs1.seq (seq_ref hs) rv2
              exact ⟨a, vs, rfl, e3, hE1.now rs1 (ItOk.enum e2)⟩
          | tup _ => exact absurd rfl ht
          | _ => cases h1
end
/-! recursion: a chain of computations -/
theorem cal_none {P : Program} {w : World} {K : PySem.W.Frag} {mg : Str → Option Value} {base : Heap} {x q : Str} {st : Stmt} {a : Addr} {fd : FuncData} {k : Nat} {ps : List Str} (F : Fun K x q st a fd) (g : mg x = some (.ref a)) (b : Binds K fd ps []) : Cal P w K mg base x k ps (fun _ _ => none) :=
  ⟨a, fd, ⟨(fun _ _ _ _ h => by obtain ⟨_, _, _, _, _, _, _, h, _⟩ := h; cases h), (fun _ _ _ _ _ _ _ _ _ _ _ _ _ h => by obtain ⟨_, _, _, _, _, _, _, h, _⟩ := h; cases h)⟩, g, F.kp, b⟩
theorem cal_rec {P : Program} {w : World} {K : PySem.W.Frag} {mg : Str → Option Value} {base : Heap} {x : Str} {ps : List Str} {G : Mir → Mir} {Fn : Nat → Mir} {b : Nat} (h0 : Cal P w K mg base x (b + 0) ps (fun _ _ => none)) (hs : ∀ n m, Cal P w K mg base x (b + n) ps m → Cal P w K mg base x (b + n + 1) ps (G m)) (e0 : Fn 0 = fun _ _ => none) (e : ∀ n, Fn (n + 1) = G (Fn n)) : ∀ n, Cal P w K mg base x (b + n) ps (Fn n)
  | 0 => by
    rw [e0]
    exact h0
  | n + 1 => by
    rw [e n]
    exact hs n _ (cal_rec h0 hs e0 e n)
end DL
namespace DL
open PySem PySem.Spec PyProof.Rows L2 RT RZ

/-! ### plain lemmas about the computations -/
section
variable {α β : Type} {S S' : Sto} {env env' : Ev}
@[simp] theorem bindR_okE (a : α) (S : Sto) (k : α → Sto → Ans β) : bindR (some (.ok a, S)) k = k a S := rfl
@[simp] theorem bindR_noneE (k : α → Sto → Ans β) : bindR (none : Ans α) k = none := rfl
@[simp] theorem bindR_exE (e : Exn) (S : Sto) (k : α → Sto → Ans β) : bindR (some (.ex e, S)) k = some (.ex e, S) := rfl
@[simp] theorem bindS_okE (a : α) (S : Sto) (env : Ev) (k : α → Sto → AnsS) : bindS (some (.ok a, S)) env k = k a S := rfl
@[simp] theorem bindS_exE (e : Exn) (S : Sto) (env : Ev) (k : α → Sto → AnsS) : bindS (some (.ex e, S)) env k = some (.ex e, env, S) := rfl
@[simp] theorem okO_someE (a : α) (S : Sto) : okO (some (a, S)) = some (.ok a, S) := rfl
@[simp] theorem okT_someE (b : Bool) (S : Sto) : okT (some b) S = some (.ok b, S) := rfl
@[simp] theorem intsOf_map : ∀ is : List Int, intsOf (is.map D.int) = some is
  | [] => rfl
  | i :: is => by simp [intsOf, intsOf_map is]
@[simp] theorem strsOf_map : ∀ is : List Str, strsOf (is.map D.str) = some is
  | [] => rfl
  | i :: is => by simp [strsOf, strsOf_map is]
@[simp] theorem blsOf_map : ∀ is : List Bool, blsOf (is.map D.bl) = some is
  | [] => rfl
  | i :: is => by simp [blsOf, blsOf_map is]
theorem intsOf_eq : ∀ {ds : List D} {is : List Int}, intsOf ds = some is → ds = is.map D.int
  | [], _, h => by cases h; rfl
  | .int i :: ds, _, h => by
    unfold intsOf at h
    split at h
    · rename_i js hj
      cases h
      rw [intsOf_eq hj]
      rfl
    · cases h
  | .non :: _, _, h => by cases h
  | .bl _ :: _, _, h => by cases h
  | .str _ :: _, _, h => by cases h
  | .tup _ :: _, _, h => by cases h
  | .ref _ :: _, _, h => by cases h
theorem strsOf_eq : ∀ {ds : List D} {is : List Str}, strsOf ds = some is → ds = is.map D.str
  | [], _, h => by cases h; rfl
  | .str i :: ds, _, h => by
    unfold strsOf at h
    split at h
    · rename_i js hj
      cases h
      rw [strsOf_eq hj]
      rfl
    · cases h
  | .non :: _, _, h => by cases h
  | .bl _ :: _, _, h => by cases h
  | .int _ :: _, _, h => by cases h
  | .tup _ :: _, _, h => by cases h
  | .ref _ :: _, _, h => by cases h
/-- turns enough for any while -/
@[irreducible] def fuel : Nat := 1000000
theorem fuel_ge : 1000000 ≤ fuel := by
  unfold fuel
  exact Nat.le_refl _
/-! how the computations go on, for simp -/
section
variable {fa fb : Ev → Sto → Ans D} {fs : Ev → Sto → Ans (List D)} {ga gb : Ev → Sto → Ans Bool} {f g : Ev → Sto → AnsS} {op : D → D → Sto → Option (D × Sto)} {op1 : D → Sto → Option (D × Sto)} {opn : List D → Sto → Option (D × Sto)} {opm : D → List D → Sto → Option (D × Sto)} {ops : D → D → D → Sto → Option Sto} {m : Mir}
@[simp] theorem E_bindS_none {α : Type} (env : Ev) (k : α → Sto → AnsS) : bindS (none : Ans α) env k = none := rfl
@[simp] theorem E_okO_none {α : Type} : okO (none : Option (α × Sto)) = none := rfl
@[simp] theorem E_okT_none (S : Sto) : okT none S = none := rfl
@[simp] theorem E_dVar (i : Nat) : dVar i env S = match env[i]? with
  | some (some d) => some (.ok d, S)
  | _ => none := rfl
@[simp] theorem E_dC (d : D) : dC d env S = some (.ok d, S) := rfl
@[simp] theorem E_dOp : dOp op fa fb env S = bindR (fa env S) fun a S1 => bindR (fb env S1) fun b S2 => okO (op a b S2) := rfl
@[simp] theorem E_dUn : dUn op1 fa env S = bindR (fa env S) fun a S1 => okO (op1 a S1) := rfl
@[simp] theorem E_dNil : dNil env S = some (.ok [], S) := rfl
@[simp] theorem E_dCons : dCons fa fs env S = bindR (fa env S) fun a S1 => bindR (fs env S1) fun r S2 => some (.ok (a :: r), S2) := rfl
@[simp] theorem E_dCB : dCB opn fs env S = bindR (fs env S) fun ds S1 => okO (opn ds S1) := rfl
@[simp] theorem E_dM (T : String) : dM T opm fa fs env S = bindR (fa env S) fun a S1 => if tyM T a S1 = true then bindR (fs env S1) fun ds S2 => okO (opm a ds S2) else none := rfl
@[simp] theorem E_dTru : dTru fa env S = bindR (fa env S) fun a S1 => okT (truD a S1) S1 := rfl
@[simp] theorem E_dBl : dBl fa env S = bindR (fa env S) fun a S1 => okT (blOf a) S1 := rfl
@[simp] theorem E_dAnd : dAnd ga gb env S = bindR (ga env S) fun a S1 => if a = true then gb env S1 else some (.ok false, S1) := rfl
@[simp] theorem E_dOr : dOr ga gb env S = bindR (ga env S) fun a S1 => if a = true then some (.ok true, S1) else gb env S1 := rfl
@[simp] theorem E_dNot : dNot ga env S = bindR (ga env S) fun a S1 => some (.ok (!a), S1) := rfl
@[simp] theorem E_dAndV : dAndV fa fb env S = bindR (fa env S) fun a S1 => bindR (okT (truD a S1) S1) fun c S1 => if c = true then fb env S1 else some (.ok a, S1) := rfl
@[simp] theorem E_dOrV : dOrV fa fb env S = bindR (fa env S) fun a S1 => bindR (okT (truD a S1) S1) fun c S1 => if c = true then some (.ok a, S1) else fb env S1 := rfl
@[simp] theorem E_dNotV : dNotV fa env S = bindR (fa env S) fun a S1 => bindR (okT (truD a S1) S1) fun c S1 => some (.ok (.bl (!c)), S1) := rfl
@[simp] theorem E_dIf : dIf ga fa fb env S = bindR (ga env S) fun c S1 => if c = true then fa env S1 else fb env S1 := rfl
@[simp] theorem E_dTrue : dTrue env S = some (.ok true, S) := rfl
@[simp] theorem E_dCall : dCall m fs env S = bindR (fs env S) fun ds S1 => m ds S1 := rfl
@[simp] theorem E_dIsi (T : String) : dIsi T fa env S = bindR (fa env S) fun a S1 => match tyN a S1 with
  | some n => match kitB n T with
    | some b => some (.ok (.bl b), S1)
    | none => none
  | none => none := rfl
@[simp] theorem E_dSl (fl fh : Option (Ev → Sto → Ans D)) : dSl fa fl fh env S = bindR (fa env S) fun a S1 => bindR (dOpt fl env S1) fun lo S2 => bindR (dOpt fh env S2) fun hi S3 => okO (gSl a lo hi S3) := rfl
@[simp] theorem E_dOpt_none : dOpt none env S = some (.ok none, S) := rfl
@[simp] theorem E_dOpt_some : dOpt (some fa) env S = bindR (fa env S) fun d S1 => match d with
  | .int i => some (.ok (some i), S1)
  | _ => none := rfl
@[simp] theorem E_sNext : sNext env S = some (.nx, env, S) := rfl
@[simp] theorem E_sBreak : sBreak env S = some (.bk, env, S) := rfl
@[simp] theorem E_sCont : sCont env S = some (.ct, env, S) := rfl
@[simp] theorem E_sSeq : sSeq f g env S = match f env S with
  | some (.nx, env1, S1) => g env1 S1
  | x => x := rfl
@[simp] theorem E_sAsg (t : Tg) : sAsg t fa env S = bindS (fa env S) env fun d S1 => match t.put d env with
  | some env1 => some (.nx, env1, S1)
  | none => none := rfl
@[simp] theorem E_sSub {fe fo fi : Ev → Sto → Ans D} : sSub ops fe fo fi env S = bindS (fe env S) env fun d S1 => bindS (fo env S1) env fun o S2 => bindS (fi env S2) env fun i S3 => match ops o i d S3 with
  | some S4 => some (.nx, env, S4)
  | none => none := rfl
@[simp] theorem E_sAug (i : Nat) : sAug i op fa env S = match env[i]? with
  | some (some x) => bindS (fa env S) env fun y S1 => match op x y S1 with
    | some (z, S2) => some (.nx, env.set i (some z), S2)
    | none => none
  | _ => none := rfl
@[simp] theorem E_sAugS {gg gp : D → D → Sto → Option (D × Sto)} {fe fo fi : Ev → Sto → Ans D} : sAugS gg gp ops fo fi fe env S = bindS (fo env S) env fun o S1 => bindS (fi env S1) env fun i S2 => bindS (okO (gg o i S2)) env fun x S3 => bindS (fe env S3) env fun y S4 => bindS (okO (gp x y S4)) env fun z S5 => match ops o i z S5 with
  | some S6 => some (.nx, env, S6)
  | none => none := rfl
@[simp] theorem E_sExpr : sExpr fa env S = bindS (fa env S) env fun _ S1 => some (.nx, env, S1) := rfl
@[simp] theorem E_sRet : sRet fa env S = bindS (fa env S) env fun d S1 => some (.rt d, env, S1) := rfl
@[simp] theorem E_sRetN : sRetN env S = some (.rt .non, env, S) := rfl
@[simp] theorem E_sIf : sIf ga f g env S = bindS (ga env S) env fun c S1 => if c = true then f env S1 else g env S1 := rfl
@[simp] theorem E_sWhile (n : Nat) : sWhile n ga f env S = whileD ga f n env S := rfl
@[simp] theorem E_sFor {fw : Ev → Sto → Ans Wk} (t : Tg) : sFor fw t f env S = bindS (fw env S) env fun w S1 => forD w.ok t f w.items env S1 := rfl
@[simp] theorem E_wSeq : wSeq fa env S = bindR (fa env S) fun d S1 => match seqOf d S1 with
  | some ds => some (.ok ⟨fun S => seqOf d S = some ds, ds⟩, S1)
  | none => none := rfl
@[simp] theorem E_wRev : wRev fa env S = bindR (fa env S) fun d S1 => match seqOf d S1 with
  | some ds => some (.ok ⟨fun S => seqOf d S = some ds, ds.reverse⟩, S1)
  | none => none := rfl
@[simp] theorem E_wRange : wRange fs env S = bindR (fs env S) fun ds S1 => match ds with
  | [.int j] => if RgB j then some (.ok ⟨fun _ => True, rangeL 0 j.toNat⟩, S1) else none
  | [.int i, .int j] => if RgB i ∧ RgB j then some (.ok ⟨fun _ => True, rangeL i (j - i).toNat⟩, S1) else none
  | _ => none := rfl
@[simp] theorem E_wEnumA : wEnumA fs env S = bindR (fs env S) fun ds S1 => match ds with
  | [d] => match seqOf d S1 with
    | some xs => some (.ok ⟨fun S => seqOf d S = some xs, enumD xs⟩, S1)
    | none => none
  | _ => none := rfl
@[simp] theorem E_dLc {fw : Ev → Sto → Ans Wk} (t : Tg) (vs : List Nat) : dLc fw t ga fa vs env S = bindR (fw env S) fun w S1 => match lcD w.ok t ga fa (wipeE env vs) S1.length w.items (S1 ++ [.lst []]) with
  | some S2 => some (.ok (.ref S1.length), S2)
  | none => none := rfl
@[simp] theorem E_put_nm (i : Nat) (d : D) (env : Ev) : Tg.put (.nm i) d env = some (env.set i (some d)) := rfl
@[simp] theorem E_put_tp (l : List Tg) (ds : List D) (env : Ev) : Tg.put (.tp l) (.tup ds) env = Tg.puts l ds env := rfl
@[simp] theorem E_puts_nil (env : Ev) : Tg.puts [] [] env = some env := rfl
@[simp] theorem E_puts_cons (t : Tg) (ts : List Tg) (d : D) (ds : List D) (env : Ev) : Tg.puts (t :: ts) (d :: ds) env = match Tg.put t d env with
  | some env1 => Tg.puts ts ds env1
  | none => none := rfl
@[simp] theorem E_runB (n k : Nat) (ds : List D) : runB n k f ds S = if ds.length = n then match f (ds.map some ++ List.replicate (k - n) none) S with
    | some (.nx, _, S') => some (.ok .non, S')
    | some (.rt d, _, S') => some (.ok d, S')
    | some (.ex e, _, S') => some (.ex e, S')
    | _ => none
  else none := rfl
@[simp] theorem E_wipeE_nil (env : Ev) : wipeE env [] = env := rfl
@[simp] theorem E_wipeE_cons (env : Ev) (v : Nat) (vs : List Nat) : wipeE env (v :: vs) = (wipeE env vs).set v none := rfl
@[simp] theorem E_gAdd_int (i j : Int) : gAdd (.int i) (.int j) S = some (.int (i + j), S) := rfl
@[simp] theorem E_gSub_int (i j : Int) : gSub (.int i) (.int j) S = some (.int (i - j), S) := rfl
@[simp] theorem E_gIAdd_int (i j : Int) : gIAdd (.int i) (.int j) S = some (.int (i + j), S) := rfl
@[simp] theorem E_gNeg_int (i : Int) : gNeg (.int i) S = some (.int (-i), S) := rfl
@[simp] theorem E_gMulR (i j : Int) (h1 : -(2 ^ 64) < j) (h2 : j < 2 ^ 64) : gMul (.int i) (.int j) S = some (.int (i * j), S) := if_pos (.inl (.inr ⟨h1, h2⟩))
theorem E_gMulW (i j : Int) (h : CMulW i j) : gMul (.int i) (.int j) S = some (.int (i * j), S) := if_pos (.inr (.inl h))
theorem E_gMulI (i j : Int) (h : IntMulOk i j) : gMul (.int i) (.int j) S = some (.int (i * j), S) := if_pos (.inr (.inr h))
@[simp] theorem E_gMod (i j : Int) (h : 0 < j) : gMod (.int i) (.int j) S = some (.int (i % j), S) := if_pos h
theorem E_gFdiv (i j : Int) (h : CDivW i j) : gFdiv (.int i) (.int j) S = some (.int (i / j), S) := if_pos h
@[simp] theorem E_gPow (i j : Int) (h0 : 0 ≤ j) (h1 : j ≤ 1000000) (h2 : i.natAbs < 2 ^ 64) : gPow (.int i) (.int j) S = some (.int (i ^ j.toNat), S) := if_pos ⟨h0, h1, h2⟩
@[simp] theorem E_gEq (a b : D) : gEq a b S = blS (eqB a b S) S := rfl
@[simp] theorem E_gNe (a b : D) : gNe a b S = blS ((eqB a b S).map (!·)) S := rfl
@[simp] theorem E_eqB_int (i j : Int) : eqB (.int i) (.int j) S = some (decide (i = j)) := rfl
@[simp] theorem E_eqB_str (i j : Str) : eqB (.str i) (.str j) S = some (decide (i = j)) := rfl
@[simp] theorem E_eqB_bl (i j : Bool) : eqB (.bl i) (.bl j) S = some (decide (i = j)) := rfl
@[simp] theorem E_blS (b : Bool) : blS (some b) S = some (.bl b, S) := rfl
@[simp] theorem E_blS0 : blS none S = none := rfl
@[simp] theorem E_blOf (b : Bool) : blOf (.bl b) = some b := rfl
@[simp] theorem E_gLt_int (i j : Int) : gLt (.int i) (.int j) S = some (.bl (decide (i < j)), S) := rfl
@[simp] theorem E_gLe_int (i j : Int) : gLe (.int i) (.int j) S = some (.bl (decide (i ≤ j)), S) := rfl
@[simp] theorem E_gGt_int (i j : Int) : gGt (.int i) (.int j) S = some (.bl (decide (j < i)), S) := rfl
@[simp] theorem E_gGe_int (i j : Int) : gGe (.int i) (.int j) S = some (.bl (decide (j ≤ i)), S) := rfl
@[simp] theorem E_gIx_ref (n : Nat) (i : Int) : gIx (.ref n) (.int i) S = match seqOf (.ref n) S with
    | some ds => match atI ds i with
      | some d => some (d, S)
      | none => none
    | none => none := rfl
@[simp] theorem E_gIx_tup (ds : List D) (i : Int) : gIx (.tup ds) (.int i) S = match atI ds i with
      | some d => some (d, S)
      | none => none := rfl
@[simp] theorem E_gIxL (n : Nat) (i : Int) : gIxL (.ref n) (.int i) S = match seqOf (.ref n) S with
    | some ds => match atI ds i with
      | some d => if 0 ≤ i then some (d, S) else none
      | none => none
    | none => none := rfl
@[simp] theorem E_gSetL (n : Nat) (k : Int) (d : D) : gSetL (.ref n) (.int k) d S = match S[n]? with
    | some (.lst ds) => match ixN ds.length k with
      | some j => some (S.set n (.lst (ds.set j d)))
      | none => none
    | _ => none := rfl
theorem E_seq_ref (n : Nat) : seqOf (.ref n) S = match S[n]? with
    | some (.lst ds) => some ds
    | some (.rol ds) => some ds
    | _ => none := rfl
@[simp] theorem E_cInt (i : Int) : cInt [.int i] S = some (.int i, S) := rfl
@[simp] theorem E_cIntB (b : Bool) : cInt [.bl b] S = some (.int (if b then 1 else 0), S) := rfl
@[simp] theorem E_cAbs (i : Int) : cAbs [.int i] S = some (.int (if i < 0 then -i else i), S) := rfl
@[simp] theorem E_cMax2 (i j : Int) : cMax2 [.int i, .int j] S = some (.int (if j > i then j else i), S) := rfl
@[simp] theorem E_cMin2 (i j : Int) : cMin2 [.int i, .int j] S = some (.int (if j < i then j else i), S) := rfl
@[simp] theorem E_cLen_ref (n : Nat) : cLen [.ref n] S = match seqOf (.ref n) S with
    | some ds => some (.int ds.length, S)
    | none => none := rfl
@[simp] theorem E_cLen_tup (ds : List D) : cLen [.tup ds] S = some (.int ds.length, S) := rfl
@[simp] theorem E_cList (d : D) : cList [d] S = match seqOf d S with
    | some ds => some (.ref S.length, S ++ [.lst ds])
    | none => none := rfl
@[simp] theorem E_cTuple (d : D) : cTuple [d] S = match seqOf d S with
    | some ds => some (.tup ds, S)
    | none => none := rfl
@[simp] theorem E_mAppend (n : Nat) (d : D) : mAppend (.ref n) [d] S = match S[n]? with
    | some (.lst ds) => if ds.length < sizeLine then some (.non, S.set n (.lst (ds ++ [d]))) else none
    | _ => none := rfl
@[simp] theorem E_mPop (n : Nat) : mPop (.ref n) [] S = match S[n]? with
    | some (.lst ds) => match ds[ds.length - 1]? with
      | some d => some (d, S.set n (.lst ds.dropLast))
      | none => none
    | _ => none := rfl
@[simp] theorem E_tyM_list (n : Nat) : tyM "list" (.ref n) S = (seqOf (.ref n) S).isSome := rfl
@[simp] theorem E_gTup (ds : List D) (h : ds.length ≤ sizeLine) : gTup ds S = some (.tup ds, S) := if_pos h
@[simp] theorem E_gLst (ds : List D) (h : ds.length ≤ sizeLine) : gLst ds S = some (.ref S.length, S ++ [.lst ds]) := if_pos h
@[simp] theorem E_truD_bl (b : Bool) : truD (.bl b) S = some b := rfl
@[simp] theorem E_truD_int (i : Int) : truD (.int i) S = some (i != 0) := rfl
@[simp] theorem E_truD_ref (n : Nat) : truD (.ref n) S = (seqOf (.ref n) S).map fun ds => !ds.isEmpty := rfl
@[simp] theorem E_truD_tup (ds : List D) : truD (.tup ds) S = some (!ds.isEmpty) := rfl
theorem line_big : (1000000 : Nat) ≤ sizeLine := by decide
@[simp] theorem line0 : 0 ≤ sizeLine := Nat.zero_le _
end
theorem atI_of {α : Type} {xs : List α} {i : Int} {k : Nat} {x : α} (hi : i = k) (h : xs[k]? = some x) : atI xs i = some x := by
  subst hi
  exact atI_nat h
theorem ixN_of {n : Nat} {i : Int} {k : Nat} (hi : i = k) (h : k < n) : ixN n i = some k := by
  subst hi
  unfold ixN
  rw [if_pos (by omega), if_pos (by omega)]
  simp
/-! kinds of values, for isinstance -/
@[simp] theorem kit_ii : kitB "int" "int" = some true := by decide +kernel
@[simp] theorem kit_ib : kitB "int" "bool" = some false := by decide +kernel
@[simp] theorem kit_tt : kitB "tuple" "tuple" = some true := by decide +kernel
@[simp] theorem kit_tb : kitB "tuple" "bool" = some false := by decide +kernel
@[simp] theorem kit_ss : kitB "str" "str" = some true := by decide +kernel
@[simp] theorem kit_ns : kitB "NoneType" "str" = some false := by decide +kernel
@[simp] theorem kit_ts : kitB "tuple" "str" = some false := by decide +kernel
@[simp] theorem kit_bb : kitB "bool" "bool" = some true := by decide +kernel
@[simp] theorem kit_nt : kitB "NoneType" "tuple" = some false := by decide +kernel
@[simp] theorem kit_st : kitB "str" "tuple" = some false := by decide +kernel
@[simp] theorem E_tyN_int (i : Int) : tyN (.int i) S = some "int" := rfl
@[simp] theorem E_tyN_tup (l : List D) : tyN (.tup l) S = some "tuple" := rfl
@[simp] theorem E_tyN_bl (i : Bool) : tyN (.bl i) S = some "bool" := rfl
@[simp] theorem E_tyN_str (i : Str) : tyN (.str i) S = some "str" := rfl
@[simp] theorem E_tyN_non : tyN .non S = some "NoneType" := rfl
/-! locations -/
theorem get_app (S T : Sto) (k : Nat) : (S ++ T)[S.length + k]? = T[k]? := by
  rw [List.getElem?_append_right (Nat.le_add_right _ _), Nat.add_sub_cancel_left]
@[simp] theorem get_app0 (S T : Sto) : (S ++ T)[S.length]? = T[0]? := get_app S T 0
@[simp] theorem get_last (S : Sto) (o : O) : (S ++ [o])[S.length]? = some o := get_app S [o] 0
theorem get_old {S T : Sto} {n : Nat} {o : O} (h : S[n]? = some o) : (S ++ T)[n]? = some o := by
  rw [List.getElem?_append_left (List.getElem?_eq_some_iff.mp h).1]
  exact h
@[simp] theorem set_last (S : Sto) (o u : O) : (S ++ [o]).set S.length u = S ++ [u] := by
  rw [List.set_append_right _ _ (Nat.le_refl _), Nat.sub_self]
  rfl
theorem seq_old {S T : Sto} {d : D} {ds : List D} (h : seqOf d S = some ds) : seqOf d (S ++ T) = some ds := by
  cases d with
  | ref n =>
    rcases seq_ref h with h | h
    · simp [seqOf, get_old h]
    · simp [seqOf, get_old h]
  | tup _ => exact h
  | _ => cases h
theorem seq_lst {S : Sto} {n : Nat} {ds : List D} (h : S[n]? = some (.lst ds)) : seqOf (.ref n) S = some ds := by simp [seqOf, h]
@[simp] theorem seq_tup (ds : List D) (S : Sto) : seqOf (.tup ds) S = some ds := rfl
@[simp] theorem seq_last (S : Sto) (ds : List D) : seqOf (.ref S.length) (S ++ [.lst ds]) = some ds := by simp [seqOf]
theorem lst_lt {S : Sto} {n : Nat} {o : O} (h : S[n]? = some o) : n < S.length := (List.getElem?_eq_some_iff.mp h).1

/-! loops -/
theorem whileD_rule {fc : Ev → Sto → Ans Bool} {fb : Ev → Sto → AnsS} (Inv : Ev → Sto → Prop) (mu : Ev → Sto → Nat) (Post : Ev → Sto → Prop)
    (step : ∀ env S, Inv env S → (∃ S1, fc env S = some (.ok false, S1) ∧ Post env S1) ∨ ∃ S1 env2 S2, fc env S = some (.ok true, S1) ∧ (fb env S1 = some (.nx, env2, S2) ∨ fb env S1 = some (.ct, env2, S2)) ∧ Inv env2 S2 ∧ mu env2 S2 < mu env S) :
    ∀ (n : Nat) (env : Ev) (S : Sto), Inv env S → mu env S < n → ∃ env' S', whileD fc fb n env S = some (.nx, env', S') ∧ Post env' S'
  | 0, _, _, _, h => absurd h (Nat.not_lt_zero _)
  | n + 1, env, S, hI, hm => by
    unfold whileD
    rcases step env S hI with ⟨S1, h1, h2⟩ | ⟨S1, env2, S2, h1, h2, h3, h4⟩
    · rw [h1]
      exact ⟨env, S1, rfl, h2⟩
    · obtain ⟨e', S', q1, q2⟩ := whileD_rule Inv mu Post step n env2 S2 h3 (by omega)
      refine ⟨e', S', ?_, q2⟩
      rw [h1, bindS_okE, if_pos rfl]
      rcases h2 with h2 | h2
      · rw [h2]
        exact q1
      · rw [h2]
        exact q1
theorem forD_rule {ok : Sto → Prop} {t : Tg} {fb : Ev → Sto → AnsS} (Inv : Nat → Ev → Sto → Prop) (Ret : D → Ev → Sto → Prop) : ∀ (items : List D) (i : Nat) (env : Ev) (S : Sto) (hok : ∀ j env S, j ≤ i + items.length → Inv j env S → ok S) (hI : Inv i env S)
    (step : ∀ j x env S, items[j]? = some x → Inv (i + j) env S → ∃ env1 env2 S2, t.put x env = some env1 ∧ ((fb env1 S = some (.nx, env2, S2) ∧ Inv (i + j + 1) env2 S2) ∨ (fb env1 S = some (.ct, env2, S2) ∧ Inv (i + j + 1) env2 S2) ∨ ∃ d, fb env1 S = some (.rt d, env2, S2) ∧ Ret d env2 S2)),
    (∃ env' S', forD ok t fb items env S = some (.nx, env', S') ∧ Inv (i + items.length) env' S') ∨ ∃ d env' S', forD ok t fb items env S = some (.rt d, env', S') ∧ Ret d env' S'
  | [], i, env, S, hok, hI, _ => .inl ⟨env, S, by unfold forD; rw [if_pos (hok i env S (by simp) hI)], hI⟩
  | x :: xs, i, env, S, hok, hI, step => by
    unfold forD
    rw [if_pos (hok i env S (by omega) hI)]
    obtain ⟨env1, env2, S2, h1, h2⟩ := step 0 x env S rfl hI
    rw [h1]
    have ih := fun hI2 => forD_rule Inv Ret xs (i + 1) env2 S2 (fun j env S hj h => hok j env S (by simp only [List.length_cons]; omega) h) hI2 (fun j y env S hy hj => by
      have q := step (j + 1) y env S (by simpa using hy) (by rw [show i + (j + 1) = i + 1 + j by omega]; exact hj)
      rw [show i + (j + 1) + 1 = i + 1 + j + 1 by omega] at q
      exact q)
    rcases h2 with ⟨h2, h3⟩ | ⟨h2, h3⟩ | ⟨d, h2, h3⟩
    · simp only [h2]
      have q := ih h3
      rw [show i + 1 + xs.length = i + (x :: xs).length by simp only [List.length_cons]; omega] at q
      exact q
    · simp only [h2]
      have q := ih h3
      rw [show i + 1 + xs.length = i + (x :: xs).length by simp only [List.length_cons]; omega] at q
      exact q
    · simp only [h2]
      exact .inr ⟨d, env2, S2, rfl, h3⟩
/-- a loop that is not left early -/
theorem forD_all {ok : Sto → Prop} {t : Tg} {fb : Ev → Sto → AnsS} (Inv : Nat → Ev → Sto → Prop) (items : List D) (env : Ev) (S : Sto) (hok : ∀ j env S, j ≤ items.length → Inv j env S → ok S) (hI : Inv 0 env S)
    (step : ∀ j x env S, items[j]? = some x → Inv j env S → ∃ env1 env2 S2, t.put x env = some env1 ∧ fb env1 S = some (.nx, env2, S2) ∧ Inv (j + 1) env2 S2) :
    ∃ env' S', forD ok t fb items env S = some (.nx, env', S') ∧ Inv items.length env' S' := by
  rcases forD_rule (fb := fb) Inv (fun _ _ _ => False) items 0 env S (by simpa using hok) hI (fun j x env S hx hj => by
    rw [Nat.zero_add] at hj ⊢
    obtain ⟨e1, e2, S2, a, b, c⟩ := step j x env S hx hj
    exact ⟨e1, e2, S2, a, .inl ⟨b, c⟩⟩) with h | ⟨_, _, _, _, h⟩
  · simpa using h
  · exact h.elim
theorem lcD_rule {ok : Sto → Prop} {t : Tg} {gt : Ev → Sto → Ans Bool} {fe : Ev → Sto → Ans D} {env : Ev} {n : Nat} (Inv : Nat → List D → Sto → Prop) : ∀ (items : List D) (i : Nat) (acc : List D) (S : Sto) (hok : ∀ j acc S, Inv j acc S → ok S) (hI : Inv i acc S)
    (step : ∀ j x acc S, items[j]? = some x → Inv (i + j) acc S → ∃ env1, t.put x env = some env1 ∧ ((∃ S1, gt env1 S = some (.ok false, S1) ∧ Inv (i + j + 1) acc S1) ∨
      ∃ S1 y S2, gt env1 S = some (.ok true, S1) ∧ fe env1 S1 = some (.ok y, S2) ∧ S2[n]? = some (.lst acc) ∧ acc.length < sizeLine ∧ Inv (i + j + 1) (acc ++ [y]) (S2.set n (.lst (acc ++ [y]))))),
    ∃ acc' S', lcD ok t gt fe env n items S = some S' ∧ Inv (i + items.length) acc' S'
  | [], i, acc, S, hok, hI, _ => ⟨acc, S, by unfold lcD; rw [if_pos (hok i acc S hI)], hI⟩
  | x :: xs, i, acc, S, hok, hI, step => by
    unfold lcD
    rw [if_pos (hok i acc S hI)]
    obtain ⟨env1, h1, h2⟩ := step 0 x acc S rfl hI
    rw [h1]
    have ih := fun acc2 S2 hI2 => lcD_rule (n := n) Inv xs (i + 1) acc2 S2 hok hI2 (fun j y acc S hy hj => by
      have q := step (j + 1) y acc S (by simpa using hy) (by rw [show i + (j + 1) = i + 1 + j by omega]; exact hj)
      rw [show i + (j + 1) + 1 = i + 1 + j + 1 by omega] at q
      exact q)
    have el : i + 1 + xs.length = i + (x :: xs).length := by simp only [List.length_cons]; omega
    rcases h2 with ⟨S1, h2, h3⟩ | ⟨S1, y, S2, h2, h3, h4, h5, h6⟩
    · simp only [h2]
      have q := ih acc S1 h3
      rw [el] at q
      exact q
    · simp only [h2, h3, h4]
      rw [if_pos h5]
      have q := ih _ _ h6
      rw [el] at q
      exact q
/-- a comprehension whose parts change nothing -/
theorem lcD_pure {ok : Sto → Prop} {t : Tg} {gt : Ev → Sto → Ans Bool} {fe : Ev → Sto → Ans D} {env : Ev} {S : Sto} (items : List D) (b : D → Bool) (y : D → D) (hok : ∀ acc, ok (S ++ [.lst acc]))
    (step : ∀ x acc, x ∈ items → ∃ env1, t.put x env = some env1 ∧ gt env1 (S ++ [.lst acc]) = some (.ok (b x), S ++ [.lst acc]) ∧ (b x = true → fe env1 (S ++ [.lst acc]) = some (.ok (y x), S ++ [.lst acc]))) (hz : items.length ≤ sizeLine) :
    lcD ok t gt fe env S.length items (S ++ [.lst []]) = some (S ++ [.lst ((items.filter b).map y)]) := by
  obtain ⟨acc', S', h1, h2, h3⟩ := lcD_rule (t := t) (gt := gt) (fe := fe) (env := env) (n := S.length) (fun i acc S' => S' = S ++ [.lst acc] ∧ acc = ((items.take i).filter b).map y) items 0 [] (S ++ [.lst []]) (fun _ acc _ h => by rw [h.1]; exact hok acc) ⟨rfl, by simp⟩ (fun j x acc S2 hx hj => by
    rw [Nat.zero_add] at hj ⊢
    obtain ⟨rfl, hacc⟩ := hj
    obtain ⟨env1, q1, q2, q3⟩ := step x acc (List.mem_of_getElem? hx)
    have tk : items.take (j + 1) = items.take j ++ [x] := by rw [List.take_add_one, hx]; rfl
    refine ⟨env1, q1, ?_⟩
    cases hb : b x with
    | false =>
      rw [hb] at q2
      refine .inl ⟨_, q2, rfl, ?_⟩
      rw [tk, List.filter_append, List.filter_cons, hb, hacc]
      simp
    | true =>
      rw [hb] at q2
      have hlen : acc.length < sizeLine := by
        rw [hacc, List.length_map]
        have a1 := List.length_filter_le b (items.take j)
        have a2 : (items.take j).length ≤ j := by rw [List.length_take]; omega
        have a3 : j < items.length := (List.getElem?_eq_some_iff.mp hx).1
        omega
      refine .inr ⟨_, y x, _, q2, q3 hb, get_last _ _, hlen, set_last _ _ _, ?_⟩
      rw [tk, List.filter_append, List.filter_cons, hb, List.map_append, ← hacc]
      simp)
  rw [h1, h2, h3]
  simp
/-- a comprehension with no condition whose parts change nothing, by places -/
theorem lcD_ix {ok : Sto → Prop} {t : Tg} {gt : Ev → Sto → Ans Bool} {fe : Ev → Sto → Ans D} {env : Ev} {S : Sto} (items : List D) (y : Nat → D) (hok : ∀ acc, ok (S ++ [.lst acc]))
    (step : ∀ j x, items[j]? = some x → ∃ env1, t.put x env = some env1 ∧ gt env1 (S ++ [.lst ((List.range j).map y)]) = some (.ok true, S ++ [.lst ((List.range j).map y)]) ∧ fe env1 (S ++ [.lst ((List.range j).map y)]) = some (.ok (y j), S ++ [.lst ((List.range j).map y)])) (hz : items.length ≤ sizeLine) :
    lcD ok t gt fe env S.length items (S ++ [.lst []]) = some (S ++ [.lst ((List.range items.length).map y)]) := by
  obtain ⟨acc', S', h1, h2, h3⟩ := lcD_rule (t := t) (gt := gt) (fe := fe) (env := env) (n := S.length) (fun i acc S' => S' = S ++ [.lst acc] ∧ acc = (List.range i).map y) items 0 [] (S ++ [.lst []]) (fun _ acc _ h => by rw [h.1]; exact hok acc) ⟨rfl, by simp⟩ (fun j x acc S2 hx hj => by
    rw [Nat.zero_add] at hj ⊢
    obtain ⟨rfl, rfl⟩ := hj
    obtain ⟨env1, q1, q2, q3⟩ := step j x hx
    have a3 : j < items.length := (List.getElem?_eq_some_iff.mp hx).1
    refine ⟨env1, q1, .inr ⟨_, y j, _, q2, q3, get_last _ _, by simp; omega, set_last _ _ _, ?_⟩⟩
    rw [List.range_succ, List.map_append]
    rfl)
  rw [h1, h2, h3, Nat.zero_add]
theorem rangeL0 (n : Nat) : rangeL 0 n = (List.range n).map fun (k : Nat) => D.int (k : Int) := by simp [rangeL]
theorem rangeL_at {n j : Nat} {x : D} (h : (rangeL 0 n)[j]? = some x) : j < n ∧ x = .int (j : Int) := by
  obtain ⟨a, b⟩ := rangeL_get h
  exact ⟨a, by rw [b, Int.zero_add]⟩
/-! what a call leaves -/
theorem gc_same {m : Mir} {ds : List D} {S S' : Sto} {r : R D} (h : m ds S = some (r, S')) (hl : S'.length = S.length) : gc m ds S = some (r, S') := by
  unfold gc
  rw [h]
  simp only
  split
  · rw [← hl, List.take_length]
  · rfl
theorem gc_keep {m : Mir} {ds : List D} {S S' : Sto} {r : R D} (h : m ds S = some (r, S')) (hr : r.clB S.length = false) : gc m ds S = some (r, S') := by
  unfold gc
  rw [h]
  simp only
  rw [if_neg]
  rintro ⟨_, h2, _⟩
  rw [hr] at h2
  cases h2
/-- all that was made is dropped, the store is as it was -/
theorem gc_pure {m : Mir} {ds : List D} {S T : Sto} {r : R D} (hc : ClS S) (h : m ds S = some (r, S ++ T)) (hr : r.clB S.length = true) : gc m ds S = some (r, S) := gc_eq h rfl hc hr
theorem gc_set {m : Mir} {ds : List D} {S T : Sto} {r : R D} {t : Nat} {o : O} (hc : ClS (S.set t o)) (h : m ds S = some (r, S.set t o ++ T)) (hr : r.clB S.length = true) : gc m ds S = some (r, S.set t o) := gc_eq h (List.length_set ..) hc hr
@[simp] theorem clB_int (n : Nat) (i : Int) : D.clB n (.int i) = true := rfl
@[simp] theorem clB_str (n : Nat) (i : Str) : D.clB n (.str i) = true := rfl
@[simp] theorem clB_bl (n : Nat) (i : Bool) : D.clB n (.bl i) = true := rfl
@[simp] theorem clB_non (n : Nat) : D.clB n .non = true := rfl
@[simp] theorem clB_ref (n k : Nat) : D.clB n (.ref k) = decide (k < n) := rfl
@[simp] theorem clB_tup (n : Nat) (l : List D) : D.clB n (.tup l) = D.clBs n l := rfl
@[simp] theorem clBs_nil (n : Nat) : D.clBs n [] = true := rfl
@[simp] theorem clBs_cons (n : Nat) (d : D) (l : List D) : D.clBs n (d :: l) = (D.clB n d && D.clBs n l) := rfl
@[simp] theorem clBs_ints (n : Nat) : ∀ is : List Int, D.clBs n (is.map D.int) = true
  | [] => rfl
  | i :: is => by simp [clBs_ints n is]
@[simp] theorem clBs_strs (n : Nat) : ∀ is : List Str, D.clBs n (is.map D.str) = true
  | [] => rfl
  | i :: is => by simp [clBs_strs n is]
@[simp] theorem clR_ok (n : Nat) (d : D) : R.clB n (.ok d) = D.clB n d := rfl
theorem clBs_iff {n : Nat} : ∀ {l : List D}, D.clBs n l = true ↔ ∀ d ∈ l, D.clB n d = true
  | [] => by simp
  | d :: l => by simp [clBs_iff (l := l)]
theorem clB_le {n k : Nat} (h : n ≤ k) : ∀ d : D, D.clB n d = true → D.clB k d = true := by
  have key : (∀ d : D, D.clB n d = true → D.clB k d = true) ∧ (∀ l : List D, D.clBs n l = true → D.clBs k l = true) := by
    refine ⟨fun d => D.rec (motive_1 := fun d => D.clB n d = true → D.clB k d = true) (motive_2 := fun l => D.clBs n l = true → D.clBs k l = true) (fun _ => rfl) (fun _ _ => rfl) (fun _ _ => rfl) (fun _ _ => rfl) (fun l ih q => ih q) (fun m q => decide_eq_true (Nat.lt_of_lt_of_le (of_decide_eq_true q) h)) (fun _ => rfl) (fun d l i1 i2 q => by
      simp only [clBs_cons, Bool.and_eq_true] at q ⊢
      exact ⟨i1 q.1, i2 q.2⟩) d, fun l => ?_⟩
    induction l with
    | nil => exact fun _ => rfl
    | cons d l ih =>
      intro q
      simp only [clBs_cons, Bool.and_eq_true] at q ⊢
      exact ⟨D.rec (motive_1 := fun d => D.clB n d = true → D.clB k d = true) (motive_2 := fun l => D.clBs n l = true → D.clBs k l = true) (fun _ => rfl) (fun _ _ => rfl) (fun _ _ => rfl) (fun _ _ => rfl) (fun l ih q => ih q) (fun m q => decide_eq_true (Nat.lt_of_lt_of_le (of_decide_eq_true q) h)) (fun _ => rfl) (fun d l i1 i2 q => by
        simp only [clBs_cons, Bool.and_eq_true] at q ⊢
        exact ⟨i1 q.1, i2 q.2⟩) d q.1, ih q.2⟩
  exact key.1
theorem clBs_le {n k : Nat} (h : n ≤ k) {l : List D} (q : D.clBs n l = true) : D.clBs k l = true := clBs_iff.mpr fun d hd => clB_le h d (clBs_iff.mp q d hd)
theorem ClS.set {S : Sto} {t : Nat} {o : O} (h : ClS S) (c : D.clBs S.length o.items = true) : ClS (S.set t o) := fun u hu => by
  rw [List.length_set]
  rcases List.mem_or_eq_of_mem_set hu with hu | rfl
  · exact h u hu
  · exact c
theorem ClS.app {S T : Sto} (h : ClS S) (c : ∀ o ∈ T, D.clBs (S.length + T.length) o.items = true) : ClS (S ++ T) := fun u hu => by
  rw [List.length_append]
  rcases List.mem_append.mp hu with hu | hu
  · exact clBs_le (Nat.le_add_right _ _) (h u hu)
  · exact c u hu
/-! == of plain data -/
@[simp] theorem pys_ints : ∀ is : List Int, D.pys (is.map D.int) = some (is.map PyData.int)
  | [] => rfl
  | i :: is => by simp [D.pys, D.py, pys_ints is]
theorem eqvAll_ints : ∀ a b : List Int, PyData.eqvAll (a.map PyData.int) (b.map PyData.int) = decide (a = b)
  | [], [] => by simp [PyData.eqvAll]
  | [], _ :: _ => by simp [PyData.eqvAll]
  | _ :: _, [] => by simp [PyData.eqvAll]
  | x :: a, y :: b => by
    simp only [List.map_cons, PyData.eqvAll, PyData.eqv, eqvAll_ints a b]
    rw [Bool.eq_iff_iff]
    simp
theorem lay_ints : ∀ a : List Int, PyData.canLayAll0 (a.map PyData.int) = true
  | [] => by simp [PyData.canLayAll0]
  | _ :: a => by simp [PyData.canLayAll0, PyData.canLay0, lay_ints a]
theorem depth_ints : ∀ a : List Int, PyData.depthAll (a.map PyData.int) = 0
  | [] => by simp [PyData.depthAll]
  | _ :: a => by simp [PyData.depthAll, PyData.depth, depth_ints a]
theorem shaped_ints (a : List Int) : SeqAt.shaped (.tuple (a.map PyData.int)) = true := by
  simp [SeqAt.shaped, PyData.canLay0, PyData.depth, lay_ints, depth_ints]
@[simp] theorem eqB_ints (a b : List Int) (S : Sto) : eqB (.tup (a.map D.int)) (.tup (b.map D.int)) S = some (decide (a = b)) := by
  simp [eqB, deepEq, toPy, D.py, shaped_ints, PyData.eqv, eqvAll_ints]
/-! slices -/
@[simp] theorem cutD_hi (xs : List D) (k : Nat) : cutD xs none (some (k : Int)) = xs.take k := by
  unfold cutD HT.sIx
  simp only [Nat.sub_zero, List.drop_zero]
  rw [if_neg (by omega), Int.toNat_natCast]
  by_cases h : k ≤ xs.length
  · rw [Nat.min_eq_left h]
  · rw [Nat.min_eq_right (by omega), List.take_length, List.take_of_length_le (by omega)]
@[simp] theorem E_gSl_tup (ds : List D) (lo hi : Option Int) (S : Sto) : gSl (.tup ds) lo hi S = some (.tup (cutD ds lo hi), S) := rfl
@[simp] theorem E_gSl_ref (n : Nat) (lo hi : Option Int) (S : Sto) : gSl (.ref n) lo hi S = match seqOf (.ref n) S with
    | some ds => some (.ref S.length, S ++ [.lst (cutD ds lo hi)])
    | none => none := rfl
@[simp] theorem rangeL_len (lo : Int) (n : Nat) : (rangeL lo n).length = n := rangeL_length
end
end DL
namespace LW
open PySem PySem.Spec PyProof.Rows L2 RT RZ DL
def topS (i : Nat) : Stmt := PySem.Challenge.pw_migraproof_k30_comparison_from_some_n_on.main.body.getD i (.Pass ⟨0, 0, 0, 0⟩)
abbrev s_trimmed : Stmt := topS 1
abbrev N_trimmed : List Str := ["numbers", "kept"]
theorem sc_trimmed : FnScope N_trimmed ["numbers"] (defScope s_trimmed) := ⟨rfl, rfl, rfl, by decide +kernel, rfl, by decide +kernel, by decide +kernel⟩
abbrev s_value_at : Stmt := topS 2
abbrev N_value_at : List Str := ["polynomial", "n", "value", "coefficient"]
theorem sc_value_at : FnScope N_value_at ["polynomial", "n"] (defScope s_value_at) := ⟨rfl, rfl, rfl, by decide +kernel, rfl, by decide +kernel, by decide +kernel⟩
abbrev s_coefficient_at : Stmt := topS 3
abbrev N_coefficient_at : List Str := ["polynomial", "power"]
theorem sc_coefficient_at : FnScope N_coefficient_at ["polynomial", "power"] (defScope s_coefficient_at) := ⟨rfl, rfl, rfl, by decide +kernel, rfl, by decide +kernel, by decide +kernel⟩
abbrev s_added : Stmt := topS 4
abbrev N_added : List Str := ["first", "second", "many", "k"]
theorem sc_added : FnScope N_added ["first", "second"] (defScope s_added) := ⟨rfl, rfl, rfl, by decide +kernel, rfl, by decide +kernel, by decide +kernel⟩
abbrev s_multiplied : Stmt := topS 5
abbrev N_multiplied : List Str := ["first", "second", "found", "low", "one", "high", "other"]
theorem sc_multiplied : FnScope N_multiplied ["first", "second"] (defScope s_multiplied) := ⟨rfl, rfl, rfl, by decide +kernel, rfl, by decide +kernel, by decide +kernel⟩
abbrev s_subtracted : Stmt := topS 6
abbrev N_subtracted : List Str := ["first", "second"]
theorem sc_subtracted : FnScope N_subtracted ["first", "second"] (defScope s_subtracted) := ⟨rfl, rfl, rfl, by decide +kernel, rfl, by decide +kernel, by decide +kernel⟩
abbrev s_difference : Stmt := topS 7
abbrev N_difference : List Str := ["polynomial", "shifted", "coefficient"]
theorem sc_difference : FnScope N_difference ["polynomial"] (defScope s_difference) := ⟨rfl, rfl, rfl, by decide +kernel, rfl, by decide +kernel, by decide +kernel⟩
abbrev s_sign_of : Stmt := topS 8
abbrev N_sign_of : List Str := ["number"]
theorem sc_sign_of : FnScope N_sign_of ["number"] (defScope s_sign_of) := ⟨rfl, rfl, rfl, by decide +kernel, rfl, by decide +kernel, by decide +kernel⟩
abbrev s_first_reaching : Stmt := topS 9
abbrev N_first_reaching : List Str := ["polynomial", "direction", "least", "low", "high", "middle"]
theorem sc_first_reaching : FnScope N_first_reaching ["polynomial", "direction", "least", "low", "high"] (defScope s_first_reaching) := ⟨rfl, rfl, rfl, by decide +kernel, rfl, by decide +kernel, by decide +kernel⟩
abbrev s_far_end : Stmt := topS 10
abbrev N_far_end : List Str := ["polynomial", "direction", "low", "step"]
theorem sc_far_end : FnScope N_far_end ["polynomial", "direction", "low"] (defScope s_far_end) := ⟨rfl, rfl, rfl, by decide +kernel, rfl, by decide +kernel, by decide +kernel⟩
abbrev s_stretch_changes : Stmt := topS 11
abbrev N_stretch_changes : List Str := ["polynomial", "direction", "low", "high", "found", "least", "before", "n", "sign"]
theorem sc_stretch_changes : FnScope N_stretch_changes ["polynomial", "direction", "low", "high"] (defScope s_stretch_changes) := ⟨rfl, rfl, rfl, by decide +kernel, rfl, by decide +kernel, by decide +kernel⟩
abbrev s_signs : Stmt := topS 12
abbrev N_signs : List Str := ["polynomial", "found", "stretches", "place", "low", "direction", "high"]
theorem sc_signs : FnScope N_signs ["polynomial"] (defScope s_signs) := ⟨rfl, rfl, rfl, by decide +kernel, rfl, by decide +kernel, by decide +kernel⟩
abbrev s_compare : Stmt := topS 13
abbrev N_compare : List Str := ["first", "second"]
theorem sc_compare : FnScope N_compare ["first", "second"] (defScope s_compare) := ⟨rfl, rfl, rfl, by decide +kernel, rfl, by decide +kernel, by decide +kernel⟩
abbrev s__law_tape : Stmt := topS 15
abbrev N__law_tape : List Str := ["_law_script", "_law_total", "_law_cell"]
theorem sc__law_tape : FnScope N__law_tape ["_law_script"] (defScope s__law_tape) := ⟨rfl, rfl, rfl, by decide +kernel, rfl, by decide +kernel, by decide +kernel⟩
abbrev s__law_draw : Stmt := topS 16
abbrev N__law_draw : List Str := ["_law_tape_here", "_law_many", "_law_place", "_law_number"]
theorem sc__law_draw : FnScope N__law_draw ["_law_tape_here", "_law_many"] (defScope s__law_draw) := ⟨rfl, rfl, rfl, by decide +kernel, rfl, by decide +kernel, by decide +kernel⟩
abbrev s__law_trimmed : Stmt := topS 17
abbrev N__law_trimmed : List Str := ["_law_numbers", "_law_last", "_law_k"]
theorem sc__law_trimmed : FnScope N__law_trimmed ["_law_numbers"] (defScope s__law_trimmed) := ⟨rfl, rfl, rfl, by decide +kernel, rfl, by decide +kernel, by decide +kernel⟩
abbrev s__law_plus : Stmt := topS 18
abbrev N__law_plus : List Str := ["_law_first", "_law_second", "_law_numbers", "_law_k", "_law_number"]
theorem sc__law_plus : FnScope N__law_plus ["_law_first", "_law_second"] (defScope s__law_plus) := ⟨rfl, rfl, rfl, by decide +kernel, rfl, by decide +kernel, by decide +kernel⟩
abbrev s__law_times : Stmt := topS 19
abbrev N__law_times : List Str := ["_law_first", "_law_second", "_law_numbers", "_law_k", "_law_j"]
theorem sc__law_times : FnScope N__law_times ["_law_first", "_law_second"] (defScope s__law_times) := ⟨rfl, rfl, rfl, by decide +kernel, rfl, by decide +kernel, by decide +kernel⟩
abbrev s__law_value : Stmt := topS 20
abbrev N__law_value : List Str := ["_law_polynomial_here", "_law_n", "_law_total", "_law_k"]
theorem sc__law_value : FnScope N__law_value ["_law_polynomial_here", "_law_n"] (defScope s__law_value) := ⟨rfl, rfl, rfl, by decide +kernel, rfl, by decide +kernel, by decide +kernel⟩
abbrev s__law_sign : Stmt := topS 21
abbrev N__law_sign : List Str := ["_law_number"]
theorem sc__law_sign : FnScope N__law_sign ["_law_number"] (defScope s__law_sign) := ⟨rfl, rfl, rfl, by decide +kernel, rfl, by decide +kernel, by decide +kernel⟩
abbrev s__law_polynomial : Stmt := topS 22
abbrev N__law_polynomial : List Str := ["_law_tape_here", "_law_most", "_law_many", "_law_choice", "_law_width", "_law_product", "_law_k"]
theorem sc__law_polynomial : FnScope N__law_polynomial ["_law_tape_here", "_law_most"] (defScope s__law_polynomial) := ⟨rfl, rfl, rfl, by decide +kernel, rfl, by decide +kernel, by decide +kernel⟩
abbrev s__law_wholes : Stmt := topS 23
abbrev N__law_wholes : List Str := ["_law_told", "_law_number"]
theorem sc__law_wholes : FnScope N__law_wholes ["_law_told"] (defScope s__law_wholes) := ⟨rfl, rfl, rfl, by decide +kernel, rfl, by decide +kernel, by decide +kernel⟩
abbrev s_law : Stmt := topS 24
abbrev N_law : List Str := ["_law_script", "_law_tape_here", "_law_first", "_law_second", "_law_difference", "_law_due", "_law_told", "_law_more", "_law_n", "_law_number"]
theorem sc_law : FnScope N_law ["_law_script"] (defScope s_law) := ⟨rfl, rfl, rfl, by decide +kernel, rfl, by decide +kernel, by decide +kernel⟩
noncomputable def m_trimmed : Ev → Sto → AnsS :=
    (sSeq (sAsg (.nm 1) (dCB cList (dCons (dVar 0) dNil)))
    (sSeq (sWhile fuel (dAnd (dTru (dVar 1)) (dBl (dOp gEq (dOp gIx (dVar 1) (dUn gNeg (dC (.int 1)))) (dC (.int 0))))) (sExpr (dM "list" mPop (dVar 1) dNil)))
    (sRet (dCB cTuple (dCons (dVar 1) dNil)))))
noncomputable abbrev r_trimmed : Mir := runB 1 2 (m_trimmed)
noncomputable def m_value_at : Ev → Sto → AnsS :=
    (sSeq (sAsg (.nm 2) (dC (.int 0)))
    (sSeq (sFor (wRev (dVar 0)) (.nm 3) (sAsg (.nm 2) (dOp gAdd (dOp gMul (dVar 2) (dVar 1)) (dVar 3))))
    (sRet (dVar 2))))
noncomputable abbrev r_value_at : Mir := runB 2 4 (m_value_at)
noncomputable def m_coefficient_at : Ev → Sto → AnsS :=
    (sSeq (sIf (dBl (dOp gLt (dVar 1) (dCB cLen (dCons (dVar 0) dNil)))) (sRet (dOp gIx (dVar 0) (dVar 1))) sNext)
    (sRet (dC (.int 0))))
noncomputable abbrev r_coefficient_at : Mir := runB 2 2 (m_coefficient_at)
noncomputable def m_added (f_trimmed : Mir) (f_coefficient_at : Mir) : Ev → Sto → AnsS :=
    (sSeq (sAsg (.nm 2) (dCB cMax2 (dCons (dCB cLen (dCons (dVar 0) dNil)) (dCons (dCB cLen (dCons (dVar 1) dNil)) dNil))))
    (sRet (dCall f_trimmed (dCons (dLc (wRange (dCons (dVar 2) dNil)) (.nm 3) dTrue (dOp gAdd (dCall f_coefficient_at (dCons (dVar 0) (dCons (dVar 3) dNil))) (dCall f_coefficient_at (dCons (dVar 1) (dCons (dVar 3) dNil)))) [3]) dNil))))
noncomputable abbrev r_added (f_trimmed : Mir) (f_coefficient_at : Mir) : Mir := runB 2 4 (m_added f_trimmed f_coefficient_at)
noncomputable def m_multiplied (f_trimmed : Mir) : Ev → Sto → AnsS :=
    (sSeq (sAsg (.nm 2) (dOp gMul (dCB gLst (dCons (dC (.int 0)) dNil)) (dOp gAdd (dCB cLen (dCons (dVar 0) dNil)) (dCB cLen (dCons (dVar 1) dNil)))))
    (sSeq (sFor (wEnumA (dCons (dVar 0) dNil)) (.tp [(.nm 3), (.nm 4)]) (sFor (wEnumA (dCons (dVar 1) dNil)) (.tp [(.nm 5), (.nm 6)]) (sAugS gIxL gIAdd gSetL (dVar 2) (dOp gAdd (dVar 3) (dVar 5)) (dOp gMul (dVar 4) (dVar 6)))))
    (sRet (dCall f_trimmed (dCons (dVar 2) dNil)))))
noncomputable abbrev r_multiplied (f_trimmed : Mir) : Mir := runB 2 7 (m_multiplied f_trimmed)
noncomputable def m_subtracted (f_added : Mir) (f_multiplied : Mir) : Ev → Sto → AnsS :=
    (sRet (dCall f_added (dCons (dVar 0) (dCons (dCall f_multiplied (dCons (dVar 1) (dCons (dCB gTup (dCons (dUn gNeg (dC (.int 1))) dNil)) dNil))) dNil))))
noncomputable abbrev r_subtracted (f_added : Mir) (f_multiplied : Mir) : Mir := runB 2 2 (m_subtracted f_added f_multiplied)
noncomputable def m_difference (f_subtracted : Mir) (f_added : Mir) (f_trimmed : Mir) (f_multiplied : Mir) : Ev → Sto → AnsS :=
    (sSeq (sAsg (.nm 1) (dCB gTup dNil))
    (sSeq (sFor (wRev (dVar 0)) (.nm 2) (sAsg (.nm 1) (dCall f_added (dCons (dCall f_multiplied (dCons (dVar 1) (dCons (dCB gTup (dCons (dC (.int 1)) (dCons (dC (.int 1)) dNil))) dNil))) (dCons (dCall f_trimmed (dCons (dCB gLst (dCons (dVar 2) dNil)) dNil)) dNil)))))
    (sRet (dCall f_subtracted (dCons (dVar 1) (dCons (dVar 0) dNil))))))
noncomputable abbrev r_difference (f_subtracted : Mir) (f_added : Mir) (f_trimmed : Mir) (f_multiplied : Mir) : Mir := runB 1 3 (m_difference f_subtracted f_added f_trimmed f_multiplied)
noncomputable def m_sign_of : Ev → Sto → AnsS :=
    (sRet (dOp gSub (dCB cInt (dCons (dOp gGt (dVar 0) (dC (.int 0))) dNil)) (dCB cInt (dCons (dOp gLt (dVar 0) (dC (.int 0))) dNil))))
noncomputable abbrev r_sign_of : Mir := runB 1 1 (m_sign_of)
noncomputable def m_first_reaching (f_value_at : Mir) : Ev → Sto → AnsS :=
    (sSeq (sWhile fuel (dBl (dOp gGt (dOp gSub (dVar 4) (dVar 3)) (dC (.int 1)))) (sSeq (sAsg (.nm 5) (dOp gFdiv (dOp gAdd (dVar 3) (dVar 4)) (dC (.int 2))))
    (sIf (dBl (dOp gGe (dOp gMul (dCall f_value_at (dCons (dVar 0) (dCons (dVar 5) dNil))) (dVar 1)) (dVar 2))) (sAsg (.nm 4) (dVar 5)) (sAsg (.nm 3) (dVar 5)))))
    (sRet (dVar 4)))
noncomputable abbrev r_first_reaching (f_value_at : Mir) : Mir := runB 5 6 (m_first_reaching f_value_at)
noncomputable def m_far_end (f_value_at : Mir) : Ev → Sto → AnsS :=
    (sSeq (sAsg (.nm 3) (dC (.int 1)))
    (sSeq (sWhile fuel (dBl (dOp gLt (dOp gMul (dCall f_value_at (dCons (dVar 0) (dCons (dOp gAdd (dVar 2) (dVar 3)) dNil))) (dVar 1)) (dC (.int 1)))) (sAsg (.nm 3) (dOp gMul (dVar 3) (dC (.int 2)))))
    (sRet (dOp gAdd (dVar 2) (dVar 3)))))
noncomputable abbrev r_far_end (f_value_at : Mir) : Mir := runB 3 4 (m_far_end f_value_at)
noncomputable def m_stretch_changes (f_value_at : Mir) (f_sign_of : Mir) (f_first_reaching : Mir) : Ev → Sto → AnsS :=
    (sSeq (sAsg (.nm 4) (dCB gLst dNil))
    (sSeq (sIf (dBl (dOp gEq (dVar 1) (dC (.int 0)))) (sRet (dVar 4)) sNext)
    (sSeq (sFor (wSeq (dCB gTup (dCons (dC (.int 0)) (dCons (dC (.int 1)) dNil)))) (.nm 5) (sSeq (sAsg (.nm 6) (dOp gMul (dCall f_value_at (dCons (dVar 0) (dCons (dVar 2) dNil))) (dVar 1)))
    (sIf (dAnd (dBl (dOp gLt (dVar 6) (dVar 5))) (dBl (dOp gGe (dOp gMul (dCall f_value_at (dCons (dVar 0) (dCons (dVar 3) dNil))) (dVar 1)) (dVar 5)))) (sSeq (sAsg (.nm 7) (dCall f_first_reaching (dCons (dVar 0) (dCons (dVar 1) (dCons (dVar 5) (dCons (dVar 2) (dCons (dVar 3) dNil)))))))
    (sSeq (sAsg (.nm 8) (dCall f_sign_of (dCons (dCall f_value_at (dCons (dVar 0) (dCons (dVar 7) dNil))) dNil)))
    (sIf (dOr (dNot (dTru (dVar 4))) (dBl (dOp gNe (dOp gIx (dVar 4) (dUn gNeg (dC (.int 1)))) (dCB gTup (dCons (dVar 7) (dCons (dVar 8) dNil)))))) (sExpr (dM "list" mAppend (dVar 4) (dCons (dCB gTup (dCons (dVar 7) (dCons (dVar 8) dNil))) dNil))) sNext))) sNext)))
    (sRet (dVar 4)))))
noncomputable abbrev r_stretch_changes (f_value_at : Mir) (f_sign_of : Mir) (f_first_reaching : Mir) : Mir := runB 4 9 (m_stretch_changes f_value_at f_sign_of f_first_reaching)
noncomputable def m_signs (f_stretch_changes : Mir) (f_far_end : Mir) (f_signs : Mir) (f_difference : Mir) (f_sign_of : Mir) (f_value_at : Mir) : Ev → Sto → AnsS :=
    (sSeq (sAsg (.nm 1) (dCB gLst (dCons (dCB gTup (dCons (dC (.int 0)) (dCons (dCall f_sign_of (dCons (dCall f_value_at (dCons (dVar 0) (dCons (dC (.int 0)) dNil))) dNil)) dNil))) dNil)))
    (sSeq (sIf (dBl (dOp gLt (dCB cLen (dCons (dVar 0) dNil)) (dC (.int 2)))) (sRet (dCB cTuple (dCons (dVar 1) dNil))) sNext)
    (sSeq (sAsg (.nm 2) (dCall f_signs (dCons (dCall f_difference (dCons (dVar 0) dNil)) dNil)))
    (sSeq (sFor (wEnumA (dCons (dVar 2) dNil)) (.tp [(.nm 3), (.tp [(.nm 4), (.nm 5)])]) (sSeq (sIf (dBl (dOp gLt (dOp gAdd (dVar 3) (dC (.int 1))) (dCB cLen (dCons (dVar 2) dNil)))) (sAsg (.nm 6) (dOp gIx (dOp gIx (dVar 2) (dOp gAdd (dVar 3) (dC (.int 1)))) (dC (.int 0)))) (sAsg (.nm 6) (dCall f_far_end (dCons (dVar 0) (dCons (dVar 5) (dCons (dVar 4) dNil))))))
    (sAsg (.nm 1) (dOp gAdd (dVar 1) (dCall f_stretch_changes (dCons (dVar 0) (dCons (dVar 5) (dCons (dVar 4) (dCons (dVar 6) dNil)))))))))
    (sRet (dCB cTuple (dCons (dVar 1) dNil)))))))
noncomputable abbrev r_signs (f_stretch_changes : Mir) (f_far_end : Mir) (f_signs : Mir) (f_difference : Mir) (f_sign_of : Mir) (f_value_at : Mir) : Mir := runB 1 7 (m_signs f_stretch_changes f_far_end f_signs f_difference f_sign_of f_value_at)
noncomputable def m_compare (f_signs : Mir) (f_subtracted : Mir) : Ev → Sto → AnsS :=
    (sRet (dOp gIx (dCall f_signs (dCons (dCall f_subtracted (dCons (dVar 0) (dCons (dVar 1) dNil))) dNil)) (dUn gNeg (dC (.int 1)))))
noncomputable abbrev r_compare (f_signs : Mir) (f_subtracted : Mir) : Mir := runB 2 2 (m_compare f_signs f_subtracted)
noncomputable def m__law_tape : Ev → Sto → AnsS :=
    (sSeq (sAsg (.nm 1) (dC (.int 7)))
    (sSeq (sFor (wSeq (dVar 0)) (.nm 2) (sAsg (.nm 1) (dOp gMod (dCB cInt (dCons (dOp gAdd (dOp gMul (dVar 1) (dC (.int 31))) (dCB cAbs (dCons (dCB cInt (dCons (dVar 2) dNil)) dNil))) dNil)) (dC (.int 2147483647)))))
    (sRet (dCB gLst (dCons (dCB cList (dCons (dVar 0) dNil)) (dCons (dC (.int 0)) (dCons (dC (.int 0)) (dCons (dVar 1) dNil))))))))
noncomputable abbrev r__law_tape : Mir := runB 1 3 (m__law_tape)
noncomputable def m__law_draw : Ev → Sto → AnsS :=
    (sSeq (sIf (dBl (dOp gEq (dOp gIx (dVar 0) (dC (.int 2))) (dC (.int 0)))) (sSeq (sAsg (.nm 2) (dOp gIx (dVar 0) (dC (.int 1))))
    (sSeq (sAsg (.nm 3) (dC (.int 0)))
    (sSeq (sIf (dBl (dOp gLt (dVar 2) (dCB cLen (dCons (dOp gIx (dVar 0) (dC (.int 0))) dNil)))) (sAsg (.nm 3) (dCB cAbs (dCons (dCB cInt (dCons (dOp gIx (dOp gIx (dVar 0) (dC (.int 0))) (dVar 2)) dNil)) dNil))) (sSeq (sSub gSetL (dOp gMod (dCB cInt (dCons (dOp gAdd (dOp gAdd (dOp gMul (dOp gIx (dVar 0) (dC (.int 3))) (dC (.int 48271))) (dVar 2)) (dC (.int 1))) dNil)) (dC (.int 2147483647))) (dVar 0) (dC (.int 3)))
    (sAsg (.nm 3) (dOp gIx (dVar 0) (dC (.int 3))))))
    (sSeq (sSub gSetL (dOp gAdd (dVar 2) (dC (.int 1))) (dVar 0) (dC (.int 1)))
    (sSeq (sIf (dBl (dOp gLt (dVar 3) (dOp gPow (dC (.int 10)) (dC (.int 18))))) (sSeq (sAsg (.nm 3) (dOp gMod (dCB cInt (dCons (dOp gAdd (dOp gAdd (dOp gMul (dVar 3) (dC (.int 48271))) (dOp gMul (dVar 2) (dC (.int 69621)))) (dC (.int 5))) dNil)) (dC (.int 2147483647))))
    (sSeq (sAsg (.nm 3) (dOp gMod (dCB cInt (dCons (dOp gMul (dVar 3) (dC (.int 69621))) dNil)) (dC (.int 2147483629))))
    (sRet (dOp gMod (dCB cInt (dCons (dVar 3) dNil)) (dCB cMax2 (dCons (dVar 1) (dCons (dC (.int 1)) dNil))))))) sNext)
    (sSub gSetL (dVar 3) (dVar 0) (dC (.int 2)))))))) sNext)
    (sSeq (sAsg (.nm 3) (dOp gIx (dVar 0) (dC (.int 2))))
    (sSeq (sSub gSetL (dOp gFdiv (dVar 3) (dCB cMax2 (dCons (dVar 1) (dCons (dC (.int 2)) dNil)))) (dVar 0) (dC (.int 2)))
    (sRet (dOp gMod (dCB cInt (dCons (dVar 3) dNil)) (dCB cMax2 (dCons (dVar 1) (dCons (dC (.int 1)) dNil))))))))
noncomputable abbrev r__law_draw : Mir := runB 2 4 (m__law_draw)
noncomputable def m__law_trimmed : Ev → Sto → AnsS :=
    (sSeq (sAsg (.nm 1) (dC (.int 0)))
    (sSeq (sFor (wRange (dCons (dCB cLen (dCons (dVar 0) dNil)) dNil)) (.nm 2) (sIf (dBl (dOp gNe (dOp gIx (dVar 0) (dVar 2)) (dC (.int 0)))) (sAsg (.nm 1) (dOp gAdd (dVar 2) (dC (.int 1)))) sNext))
    (sRet (dCB cTuple (dCons (dSl (dVar 0) none (some (dVar 1))) dNil)))))
noncomputable abbrev r__law_trimmed : Mir := runB 1 3 (m__law_trimmed)
noncomputable def m__law_plus (f__law_trimmed : Mir) : Ev → Sto → AnsS :=
    (sSeq (sAsg (.nm 2) (dCB gLst dNil))
    (sSeq (sFor (wRange (dCons (dCB cMax2 (dCons (dCB cLen (dCons (dVar 0) dNil)) (dCons (dCB cLen (dCons (dVar 1) dNil)) dNil))) dNil)) (.nm 3) (sSeq (sAsg (.nm 4) (dC (.int 0)))
    (sSeq (sIf (dBl (dOp gLt (dVar 3) (dCB cLen (dCons (dVar 0) dNil)))) (sAsg (.nm 4) (dOp gIx (dVar 0) (dVar 3))) sNext)
    (sSeq (sIf (dBl (dOp gLt (dVar 3) (dCB cLen (dCons (dVar 1) dNil)))) (sAsg (.nm 4) (dOp gAdd (dVar 4) (dOp gIx (dVar 1) (dVar 3)))) sNext)
    (sExpr (dM "list" mAppend (dVar 2) (dCons (dVar 4) dNil)))))))
    (sRet (dCall f__law_trimmed (dCons (dVar 2) dNil)))))
noncomputable abbrev r__law_plus (f__law_trimmed : Mir) : Mir := runB 2 5 (m__law_plus f__law_trimmed)
noncomputable def m__law_times (f__law_trimmed : Mir) : Ev → Sto → AnsS :=
    (sSeq (sAsg (.nm 2) (dLc (wRange (dCons (dOp gAdd (dCB cLen (dCons (dVar 0) dNil)) (dCB cLen (dCons (dVar 1) dNil))) dNil)) (.nm 3) dTrue (dC (.int 0)) [3]))
    (sSeq (sFor (wRange (dCons (dCB cLen (dCons (dVar 0) dNil)) dNil)) (.nm 3) (sFor (wRange (dCons (dCB cLen (dCons (dVar 1) dNil)) dNil)) (.nm 4) (sSub gSetL (dOp gAdd (dOp gIx (dVar 2) (dOp gAdd (dVar 3) (dVar 4))) (dOp gMul (dOp gIx (dVar 0) (dVar 3)) (dOp gIx (dVar 1) (dVar 4)))) (dVar 2) (dOp gAdd (dVar 3) (dVar 4)))))
    (sRet (dCall f__law_trimmed (dCons (dVar 2) dNil)))))
noncomputable abbrev r__law_times (f__law_trimmed : Mir) : Mir := runB 2 5 (m__law_times f__law_trimmed)
noncomputable def m__law_value : Ev → Sto → AnsS :=
    (sSeq (sAsg (.nm 2) (dC (.int 0)))
    (sSeq (sFor (wRange (dCons (dCB cLen (dCons (dVar 0) dNil)) dNil)) (.nm 3) (sAsg (.nm 2) (dOp gAdd (dOp gMul (dVar 2) (dVar 1)) (dOp gIx (dVar 0) (dOp gSub (dOp gSub (dCB cLen (dCons (dVar 0) dNil)) (dC (.int 1))) (dVar 3))))))
    (sRet (dVar 2))))
noncomputable abbrev r__law_value : Mir := runB 2 4 (m__law_value)
noncomputable def m__law_sign : Ev → Sto → AnsS :=
    (sRet (dOp gSub (dCB cInt (dCons (dOp gGt (dVar 0) (dC (.int 0))) dNil)) (dCB cInt (dCons (dOp gLt (dVar 0) (dC (.int 0))) dNil))))
noncomputable abbrev r__law_sign : Mir := runB 1 1 (m__law_sign)
noncomputable def m__law_polynomial (f__law_plus : Mir) (f__law_draw : Mir) (f__law_times : Mir) (f__law_trimmed : Mir) : Ev → Sto → AnsS :=
    (sSeq (sAsg (.nm 2) (dCall f__law_draw (dCons (dVar 0) (dCons (dOp gAdd (dVar 1) (dC (.int 1))) dNil))))
    (sSeq (sAsg (.nm 3) (dCall f__law_draw (dCons (dVar 0) (dCons (dC (.int 4)) dNil))))
    (sSeq (sIf (dBl (dOp gLt (dVar 3) (dC (.int 2)))) (sSeq (sAsg (.nm 4) (dOp gIx (dCB gLst (dCons (dC (.int 9)) (dCons (dOp gPow (dC (.int 10)) (dC (.int 9))) dNil))) (dVar 3)))
    (sRet (dCall f__law_trimmed (dCons (dLc (wRange (dCons (dVar 2) dNil)) (.nm 6) dTrue (dOp gSub (dCall f__law_draw (dCons (dVar 0) (dCons (dOp gAdd (dOp gMul (dC (.int 2)) (dVar 4)) (dC (.int 1))) dNil))) (dVar 4)) [6]) dNil)))) sNext)
    (sSeq (sAsg (.nm 5) (dCB gTup (dCons (dOp gIx (dCB gLst (dCons (dC (.int 1)) (dCons (dOp gSub (dC (.int 0)) (dC (.int 1))) dNil))) (dCall f__law_draw (dCons (dVar 0) (dCons (dC (.int 2)) dNil)))) dNil)))
    (sSeq (sAsg (.nm 2) (dCB cMax2 (dCons (dOp gSub (dVar 2) (dC (.int 1))) (dCons (dC (.int 0)) dNil))))
    (sSeq (sAsg (.nm 4) (dOp gIx (dCB gLst (dCons (dC (.int 0)) (dCons (dC (.int 999999998)) (dCons (dC (.int 30000)) (dCons (dC (.int 900)) (dCons (dC (.int 170)) (dCons (dC (.int 60)) (dCons (dC (.int 30)) (dCons (dC (.int 18)) (dCons (dC (.int 12)) dNil)))))))))) (dVar 2)))
    (sSeq (sIf (dBl (dOp gEq (dCall f__law_draw (dCons (dVar 0) (dCons (dC (.int 3)) dNil))) (dC (.int 0)))) (sAsg (.nm 4) (dCB cMin2 (dCons (dVar 4) (dCons (dC (.int 3)) dNil)))) sNext)
    (sSeq (sFor (wRange (dCons (dVar 2) dNil)) (.nm 6) (sAsg (.nm 5) (dCall f__law_times (dCons (dVar 5) (dCons (dCB gTup (dCons (dOp gSub (dC (.int 0)) (dCall f__law_draw (dCons (dVar 0) (dCons (dOp gAdd (dVar 4) (dC (.int 1))) dNil)))) (dCons (dC (.int 1)) dNil))) dNil)))))
    (sSeq (sIf (dBl (dOp gEq (dVar 3) (dC (.int 3)))) (sAsg (.nm 5) (dCall f__law_plus (dCons (dVar 5) (dCons (dCB gTup (dCons (dOp gSub (dCall f__law_draw (dCons (dVar 0) (dCons (dC (.int 3)) dNil))) (dC (.int 1))) dNil)) dNil)))) sNext)
    (sRet (dVar 5)))))))))))
noncomputable abbrev r__law_polynomial (f__law_plus : Mir) (f__law_draw : Mir) (f__law_times : Mir) (f__law_trimmed : Mir) : Mir := runB 2 7 (m__law_polynomial f__law_plus f__law_draw f__law_times f__law_trimmed)
noncomputable def m__law_wholes : Ev → Sto → AnsS :=
    (sSeq (sIf (dNot (dTru (dIsi "tuple" (dVar 0)))) (sRet (dC (.bl false))) sNext)
    (sRet (dOp gEq (dCB cLen (dCons (dLc (wSeq (dVar 0)) (.nm 1) (dOr (dNot (dTru (dIsi "int" (dVar 1)))) (dTru (dIsi "bool" (dVar 1)))) (dVar 1) [1]) dNil)) (dC (.int 0)))))
noncomputable abbrev r__law_wholes : Mir := runB 1 2 (m__law_wholes)
noncomputable def m_law (f_compare : Mir) (f__law_sign : Mir) (f__law_value : Mir) (f__law_draw : Mir) (f__law_wholes : Mir) (f__law_plus : Mir) (f__law_polynomial : Mir) (f__law_tape : Mir) : Ev → Sto → AnsS :=
    (sSeq (sAsg (.nm 1) (dCall f__law_tape (dCons (dVar 0) dNil)))
    (sSeq (sAsg (.nm 2) (dCall f__law_polynomial (dCons (dVar 1) (dCons (dC (.int 9)) dNil))))
    (sSeq (sAsg (.nm 3) (dCall f__law_polynomial (dCons (dVar 1) (dCons (dC (.int 9)) dNil))))
    (sSeq (sIf (dBl (dOp gEq (dCall f__law_draw (dCons (dVar 1) (dCons (dC (.int 2)) dNil))) (dC (.int 0)))) (sAsg (.nm 3) (dCall f__law_plus (dCons (dVar 2) (dCons (dVar 3) dNil)))) sNext)
    (sSeq (sIf (dBl (dOp gGt (dCB cLen (dCons (dLc (wSeq (dVar 3)) (.nm 9) (dBl (dOp gGt (dCB cAbs (dCons (dVar 9) dNil)) (dOp gPow (dC (.int 10)) (dC (.int 9))))) (dVar 9) [9]) dNil)) (dC (.int 0)))) (sAsg (.nm 3) (dVar 2)) sNext)
    (sSeq (sAsg (.nm 4) (dCall f__law_plus (dCons (dVar 2) (dCons (dCB cTuple (dCons (dLc (wSeq (dVar 3)) (.nm 9) dTrue (dOp gSub (dC (.int 0)) (dVar 9)) [9]) dNil)) dNil))))
    (sSeq (sAsg (.nm 5) (dC (.int 0)))
    (sSeq (sIf (dTru (dVar 4)) (sAsg (.nm 5) (dCall f__law_sign (dCons (dOp gIx (dVar 4) (dOp gSub (dCB cLen (dCons (dVar 4) dNil)) (dC (.int 1)))) dNil))) sNext)
    (sSeq (sAsg (.nm 6) (dCall f_compare (dCons (dVar 2) (dCons (dVar 3) dNil))))
    (sSeq (sIf (dOr (dNot (dTru (dCall f__law_wholes (dCons (dVar 6) dNil)))) (dOr (dBl (dOp gNe (dCB cLen (dCons (dVar 6) dNil)) (dC (.int 2)))) (dOr (dBl (dOp gNe (dOp gIx (dVar 6) (dC (.int 1))) (dVar 5))) (dBl (dOp gLt (dOp gIx (dVar 6) (dC (.int 0))) (dC (.int 0))))))) (sRet (dC (.bl false))) sNext)
    (sSeq (sAsg (.nm 7) (dCall f__law_draw (dCons (dVar 1) (dCons (dOp gPow (dC (.int 10)) (dC (.int 9))) dNil))))
    (sSeq (sIf (dTru (dVar 0)) (sAsg (.nm 7) (dOp gAdd (dVar 7) (dCB cAbs (dCons (dCB cInt (dCons (dOp gIx (dVar 0) (dC (.int 0))) dNil)) dNil)))) sNext)
    (sSeq (sFor (wSeq (dCB gLst (dCons (dOp gIx (dVar 6) (dC (.int 0))) (dCons (dOp gAdd (dOp gIx (dVar 6) (dC (.int 0))) (dC (.int 1))) (dCons (dOp gAdd (dOp gIx (dVar 6) (dC (.int 0))) (dC (.int 2))) (dCons (dOp gAdd (dOp gIx (dVar 6) (dC (.int 0))) (dVar 7)) dNil)))))) (.nm 8) (sIf (dBl (dOp gNe (dCall f__law_sign (dCons (dCall f__law_value (dCons (dVar 4) (dCons (dVar 8) dNil))) dNil)) (dVar 5))) (sRet (dC (.bl false))) sNext))
    (sSeq (sIf (dAnd (dBl (dOp gGt (dOp gIx (dVar 6) (dC (.int 0))) (dC (.int 0)))) (dBl (dOp gEq (dCall f__law_sign (dCons (dCall f__law_value (dCons (dVar 4) (dCons (dOp gSub (dOp gIx (dVar 6) (dC (.int 0))) (dC (.int 1))) dNil))) dNil)) (dVar 5)))) (sRet (dC (.bl false))) sNext)
    (sRet (dOp gEq (dCall f_compare (dCons (dVar 3) (dCons (dVar 2) dNil))) (dCB gTup (dCons (dOp gIx (dVar 6) (dC (.int 0))) (dCons (dOp gSub (dC (.int 0)) (dVar 5)) dNil)))))))))))))))))))
noncomputable abbrev r_law (f_compare : Mir) (f__law_sign : Mir) (f__law_value : Mir) (f__law_draw : Mir) (f__law_wholes : Mir) (f__law_plus : Mir) (f__law_polynomial : Mir) (f__law_tape : Mir) : Mir := runB 1 10 (m_law f_compare f__law_sign f__law_value f__law_draw f__law_wholes f__law_plus f__law_polynomial f__law_tape)
noncomputable def F_trimmed : Mir := gc (r_trimmed)
noncomputable def F_value_at : Mir := gc (r_value_at)
noncomputable def F_coefficient_at : Mir := gc (r_coefficient_at)
noncomputable def F_added : Mir := gc (r_added F_trimmed F_coefficient_at)
noncomputable def F_multiplied : Mir := gc (r_multiplied F_trimmed)
noncomputable def F_subtracted : Mir := gc (r_subtracted F_added F_multiplied)
noncomputable def F_difference : Mir := gc (r_difference F_subtracted F_added F_trimmed F_multiplied)
noncomputable def F_sign_of : Mir := gc (r_sign_of)
noncomputable def F_first_reaching : Mir := gc (r_first_reaching F_value_at)
noncomputable def F_far_end : Mir := gc (r_far_end F_value_at)
noncomputable def F_stretch_changes : Mir := gc (r_stretch_changes F_value_at F_sign_of F_first_reaching)
noncomputable def Fn_signs : Nat → Mir
  | 0 => fun _ _ => none
  | n + 1 => gc (r_signs F_stretch_changes F_far_end (Fn_signs n) F_difference F_sign_of F_value_at)
noncomputable abbrev F_signs : Mir := Fn_signs 40
noncomputable def F_compare : Mir := gc (r_compare F_signs F_subtracted)
noncomputable def F__law_tape : Mir := gc (r__law_tape)
noncomputable def F__law_draw : Mir := gc (r__law_draw)
noncomputable def F__law_trimmed : Mir := gc (r__law_trimmed)
noncomputable def F__law_plus : Mir := gc (r__law_plus F__law_trimmed)
noncomputable def F__law_times : Mir := gc (r__law_times F__law_trimmed)
noncomputable def F__law_value : Mir := gc (r__law_value)
noncomputable def F__law_sign : Mir := gc (r__law_sign)
noncomputable def F__law_polynomial : Mir := gc (r__law_polynomial F__law_plus F__law_draw F__law_times F__law_trimmed)
noncomputable def F__law_wholes : Mir := gc (r__law_wholes)
noncomputable abbrev F_law : Mir := r_law F_compare F__law_sign F__law_value F__law_draw F__law_wholes F__law_plus F__law_polynomial F__law_tape
structure Txt (mg : Str → Option Value) : Prop where
  n_tuple : mg "tuple" = none
  n_list : mg "list" = none
  n_reversed : mg "reversed" = none
  n_len : mg "len" = none
  n_range : mg "range" = none
  n_max : mg "max" = none
  n_enumerate : mg "enumerate" = none
  n_int : mg "int" = none
  n_abs : mg "abs" = none
  n_min : mg "min" = none
  n_isinstance : mg "isinstance" = none
  n_bool : mg "bool" = none
section
variable {P : Program} {w : World} {K : PySem.W.Frag} {mg : Str → Option Value} {base : Heap}
set_option maxHeartbeats 4000000 in
theorem ok_trimmed (T : Txt mg) {a : Addr} {fd : FuncData} (F : Fun K "trimmed" "trimmed" s_trimmed a fd) : FnOk P w K mg base (L2.CX P w) 1 a fd ["numbers"] (spM K mg (r_trimmed)) :=
  fn_body (N := N_trimmed) F sc_trimmed fun cdv A outer s H E hr =>
      (dss_cons (ds_set (i := 1) sc_trimmed.nd rfl (Or.inl rfl) (d_callTy c_list (by rfl) T.n_list (by decide +kernel) (da_cons (d_var 0) da_nil)))
      (dss_cons (ds_while fuel (passes_of rfl) (dt_w (dw_and (dt_of (d_var 1)) (dw_and1 (dt_cmp (o_eq hr.units) (d_ix i_ix (d_var 1) (d_un u_neg d_int) (fun _ _ => rfl)) d_int (nomark _))))) (dss_one (ds_expr (d_m0 PySem.F.plainAttrs_list PySem.F.slot_list_pop PySem.F.type_list_pop m_pop (d_var 1)))))
      (dss_one (ds_ret (d_callTy c_tuple (by rfl) T.n_tuple (by decide +kernel) (da_cons (d_var 1) da_nil))))))
set_option maxHeartbeats 4000000 in
theorem ok_value_at (T : Txt mg) {a : Addr} {fd : FuncData} (F : Fun K "value_at" "value_at" s_value_at a fd) : FnOk P w K mg base (L2.CX P w) 1 a fd ["polynomial", "n"] (spM K mg (r_value_at)) :=
  fn_body (N := N_value_at) F sc_value_at fun cdv A outer s H E hr =>
      (dss_cons (ds_set (i := 2) sc_value_at.nd rfl (Or.inl rfl) d_int)
      (dss_cons (ds_for (passes_of rfl) rfl (di_rev (by rfl) T.n_reversed (d_var 0)) (dg_name (i := 3) sc_value_at.nd rfl (Or.inl rfl)) (dss_one (ds_set (i := 2) sc_value_at.nd rfl (Or.inl rfl) (d_op o_add (d_op o_mul (d_var 2) (d_var 1)) (d_var 3)))))
      (dss_one (ds_ret (d_var 2)))))
set_option maxHeartbeats 4000000 in
theorem ok_coefficient_at (T : Txt mg) {a : Addr} {fd : FuncData} (F : Fun K "coefficient_at" "coefficient_at" s_coefficient_at a fd) : FnOk P w K mg base (L2.CX P w) 1 a fd ["polynomial", "power"] (spM K mg (r_coefficient_at)) :=
  fn_body (N := N_coefficient_at) F sc_coefficient_at fun cdv A outer s H E hr =>
      (dss_cons (ds_if (dt_cmp o_lt (d_var 1) (d_callB c_len (by rfl) T.n_len (by decide +kernel) (da_cons (d_var 0) da_nil)) (nomark _)) (dss_one (ds_ret (d_ix i_ix (d_var 0) (d_var 1) (fun _ _ => rfl)))) dss_nil)
      (dss_one (ds_ret d_int)))
set_option maxHeartbeats 4000000 in
theorem ok_added (T : Txt mg) {f_trimmed : Mir} (C_trimmed : Cal P w K mg base "trimmed" 1 ["numbers"] f_trimmed) {f_coefficient_at : Mir} (C_coefficient_at : Cal P w K mg base "coefficient_at" 1 ["polynomial", "power"] f_coefficient_at) {a : Addr} {fd : FuncData} (F : Fun K "added" "added" s_added a fd) : FnOk P w K mg base (L2.CX P w) 2 a fd ["first", "second"] (spM K mg (r_added f_trimmed f_coefficient_at)) :=
  fn_body (N := N_added) F sc_added fun cdv A outer s H E hr =>
      (dss_cons (ds_set (i := 2) sc_added.nd rfl (Or.inl rfl) (d_callB (c_max2 rfl) (by rfl) T.n_max (by decide +kernel) (da_cons (d_callB c_len (by rfl) T.n_len (by decide +kernel) (da_cons (d_var 0) da_nil)) (da_cons (d_callB c_len (by rfl) T.n_len (by decide +kernel) (da_cons (d_var 1) da_nil)) da_nil))))
      (dss_one (ds_ret (d_cal C_trimmed (hr.mono (by decide)) (by rfl) passX (da_cons (d_lc (own := [("k", 3)]) (t := (.nm 3)) (by rfl) sc_added.nd (di_range1 (by rfl) T.n_range (da_cons (d_var 2) da_nil) (len_cons len_nil)) (blkOk_by (own := [("k", 3)]) (N := N_added) (sc := defScope s_added) (by decide +kernel)) (fun _ _ _ _ _ => (dg_name (i := 3) sc_added.nd rfl (Or.inl rfl))) (fun _ _ _ _ _ => dts_nil) (fun _ _ _ _ _ => (d_op o_add (d_cal C_coefficient_at (hr.mono (by decide)) (by rfl) passL (da_cons (d_var 0) (da_cons (d_var 3) da_nil))) (d_cal C_coefficient_at (hr.mono (by decide)) (by rfl) passL (da_cons (d_var 1) (da_cons (d_var 3) da_nil))))) (by decide)) da_nil)))))
set_option maxHeartbeats 4000000 in
theorem ok_multiplied (T : Txt mg) {f_trimmed : Mir} (C_trimmed : Cal P w K mg base "trimmed" 1 ["numbers"] f_trimmed) {a : Addr} {fd : FuncData} (F : Fun K "multiplied" "multiplied" s_multiplied a fd) : FnOk P w K mg base (L2.CX P w) 2 a fd ["first", "second"] (spM K mg (r_multiplied f_trimmed)) :=
  fn_body (N := N_multiplied) F sc_multiplied fun cdv A outer s H E hr =>
      (dss_cons (ds_set (i := 2) sc_multiplied.nd rfl (Or.inl rfl) (d_op o_mul (d_lst (da_cons d_int da_nil)) (d_op o_add (d_callB c_len (by rfl) T.n_len (by decide +kernel) (da_cons (d_var 0) da_nil)) (d_callB c_len (by rfl) T.n_len (by decide +kernel) (da_cons (d_var 1) da_nil)))))
      (dss_cons (ds_for (passes_of rfl) rfl (di_enumA (by rfl) T.n_enumerate (da_cons (d_var 0) da_nil) (len_cons len_nil)) (dg_tup rfl (dgs_cons (dg_name (i := 3) sc_multiplied.nd rfl (Or.inl rfl)) (dgs_cons (dg_name (i := 4) sc_multiplied.nd rfl (Or.inl rfl)) dgs_nil))) (dss_one (ds_for (passes_of rfl) rfl (di_enumA (by rfl) T.n_enumerate (da_cons (d_var 1) da_nil) (len_cons len_nil)) (dg_tup rfl (dgs_cons (dg_name (i := 5) sc_multiplied.nd rfl (Or.inl rfl)) (dgs_cons (dg_name (i := 6) sc_multiplied.nd rfl (Or.inl rfl)) dgs_nil))) (dss_one (ds_augS o_itemL o_iadd s_list (d_var 2) (d_op o_add (d_var 3) (d_var 5)) (d_op o_mul (d_var 4) (d_var 6)))))))
      (dss_one (ds_ret (d_cal C_trimmed (hr.mono (by decide)) (by rfl) passX (da_cons (d_var 2) da_nil))))))
set_option maxHeartbeats 4000000 in
theorem ok_subtracted (T : Txt mg) {f_added : Mir} (C_added : Cal P w K mg base "added" 2 ["first", "second"] f_added) {f_multiplied : Mir} (C_multiplied : Cal P w K mg base "multiplied" 2 ["first", "second"] f_multiplied) {a : Addr} {fd : FuncData} (F : Fun K "subtracted" "subtracted" s_subtracted a fd) : FnOk P w K mg base (L2.CX P w) 3 a fd ["first", "second"] (spM K mg (r_subtracted f_added f_multiplied)) :=
  fn_body (N := N_subtracted) F sc_subtracted fun cdv A outer s H E hr =>
      (dss_one (ds_ret (d_cal C_added (hr.mono (by decide)) (by rfl) passX (da_cons (d_var 0) (da_cons (d_cal C_multiplied (hr.mono (by decide)) (by rfl) passX (da_cons (d_var 1) (da_cons (d_tup (da_cons (d_un u_neg d_int) da_nil)) da_nil))) da_nil)))))
set_option maxHeartbeats 4000000 in
theorem ok_difference (T : Txt mg) {f_subtracted : Mir} (C_subtracted : Cal P w K mg base "subtracted" 3 ["first", "second"] f_subtracted) {f_added : Mir} (C_added : Cal P w K mg base "added" 2 ["first", "second"] f_added) {f_trimmed : Mir} (C_trimmed : Cal P w K mg base "trimmed" 1 ["numbers"] f_trimmed) {f_multiplied : Mir} (C_multiplied : Cal P w K mg base "multiplied" 2 ["first", "second"] f_multiplied) {a : Addr} {fd : FuncData} (F : Fun K "difference" "difference" s_difference a fd) : FnOk P w K mg base (L2.CX P w) 4 a fd ["polynomial"] (spM K mg (r_difference f_subtracted f_added f_trimmed f_multiplied)) :=
  fn_body (N := N_difference) F sc_difference fun cdv A outer s H E hr =>
      (dss_cons (ds_set (i := 1) sc_difference.nd rfl (Or.inl rfl) (d_tup da_nil))
      (dss_cons (ds_for (passes_of rfl) rfl (di_rev (by rfl) T.n_reversed (d_var 0)) (dg_name (i := 2) sc_difference.nd rfl (Or.inl rfl)) (dss_one (ds_set (i := 1) sc_difference.nd rfl (Or.inl rfl) (d_cal C_added (hr.mono (by decide)) (by rfl) passX (da_cons (d_cal C_multiplied (hr.mono (by decide)) (by rfl) passX (da_cons (d_var 1) (da_cons (d_tup (da_cons d_int (da_cons d_int da_nil))) da_nil))) (da_cons (d_cal C_trimmed (hr.mono (by decide)) (by rfl) passX (da_cons (d_lst (da_cons (d_var 2) da_nil)) da_nil)) da_nil))))))
      (dss_one (ds_ret (d_cal C_subtracted (hr.mono (by decide)) (by rfl) passX (da_cons (d_var 1) (da_cons (d_var 0) da_nil)))))))
set_option maxHeartbeats 4000000 in
theorem ok_sign_of (T : Txt mg) {a : Addr} {fd : FuncData} (F : Fun K "sign_of" "sign_of" s_sign_of a fd) : FnOk P w K mg base (L2.CX P w) 1 a fd ["number"] (spM K mg (r_sign_of)) :=
  fn_body (N := N_sign_of) F sc_sign_of fun cdv A outer s H E hr =>
      (dss_one (ds_ret (d_op o_sub (d_callTy c_int (by rfl) T.n_int (by decide +kernel) (da_cons (d_cmp o_gt (d_var 0) d_int (nomark _)) da_nil)) (d_callTy c_int (by rfl) T.n_int (by decide +kernel) (da_cons (d_cmp o_lt (d_var 0) d_int (nomark _)) da_nil)))))
set_option maxHeartbeats 4000000 in
theorem ok_first_reaching (T : Txt mg) {f_value_at : Mir} (C_value_at : Cal P w K mg base "value_at" 1 ["polynomial", "n"] f_value_at) {a : Addr} {fd : FuncData} (F : Fun K "first_reaching" "first_reaching" s_first_reaching a fd) : FnOk P w K mg base (L2.CX P w) 2 a fd ["polynomial", "direction", "least", "low", "high"] (spM K mg (r_first_reaching f_value_at)) :=
  fn_body (N := N_first_reaching) F sc_first_reaching fun cdv A outer s H E hr =>
      (dss_cons (ds_while fuel (passes_of rfl) (dt_cmp o_gt (d_op o_sub (d_var 4) (d_var 3)) d_int (nomark _)) (dss_cons (ds_set (i := 5) sc_first_reaching.nd rfl (Or.inl rfl) (d_op o_fdiv (d_op o_add (d_var 3) (d_var 4)) d_int))
      (dss_one (ds_if (dt_cmp o_ge (d_op o_mul (d_cal C_value_at (hr.mono (by decide)) (by rfl) passX (da_cons (d_var 0) (da_cons (d_var 5) da_nil))) (d_var 1)) (d_var 2) (nomark _)) (dss_one (ds_set (i := 4) sc_first_reaching.nd rfl (Or.inl rfl) (d_var 5))) (dss_one (ds_set (i := 3) sc_first_reaching.nd rfl (Or.inl rfl) (d_var 5)))))))
      (dss_one (ds_ret (d_var 4))))
set_option maxHeartbeats 4000000 in
theorem ok_far_end (T : Txt mg) {f_value_at : Mir} (C_value_at : Cal P w K mg base "value_at" 1 ["polynomial", "n"] f_value_at) {a : Addr} {fd : FuncData} (F : Fun K "far_end" "far_end" s_far_end a fd) : FnOk P w K mg base (L2.CX P w) 2 a fd ["polynomial", "direction", "low"] (spM K mg (r_far_end f_value_at)) :=
  fn_body (N := N_far_end) F sc_far_end fun cdv A outer s H E hr =>
      (dss_cons (ds_set (i := 3) sc_far_end.nd rfl (Or.inl rfl) d_int)
      (dss_cons (ds_while fuel (passes_of rfl) (dt_cmp o_lt (d_op o_mul (d_cal C_value_at (hr.mono (by decide)) (by rfl) passX (da_cons (d_var 0) (da_cons (d_op o_add (d_var 2) (d_var 3)) da_nil))) (d_var 1)) d_int (nomark _)) (dss_one (ds_set (i := 3) sc_far_end.nd rfl (Or.inl rfl) (d_op o_mul (d_var 3) d_int))))
      (dss_one (ds_ret (d_op o_add (d_var 2) (d_var 3))))))
set_option maxHeartbeats 4000000 in
theorem ok_stretch_changes (T : Txt mg) {f_value_at : Mir} (C_value_at : Cal P w K mg base "value_at" 1 ["polynomial", "n"] f_value_at) {f_sign_of : Mir} (C_sign_of : Cal P w K mg base "sign_of" 1 ["number"] f_sign_of) {f_first_reaching : Mir} (C_first_reaching : Cal P w K mg base "first_reaching" 2 ["polynomial", "direction", "least", "low", "high"] f_first_reaching) {a : Addr} {fd : FuncData} (F : Fun K "stretch_changes" "stretch_changes" s_stretch_changes a fd) : FnOk P w K mg base (L2.CX P w) 3 a fd ["polynomial", "direction", "low", "high"] (spM K mg (r_stretch_changes f_value_at f_sign_of f_first_reaching)) :=
  fn_body (N := N_stretch_changes) F sc_stretch_changes fun cdv A outer s H E hr =>
      (dss_cons (ds_set (i := 4) sc_stretch_changes.nd rfl (Or.inl rfl) (d_lst da_nil))
      (dss_cons (ds_if (dt_cmp (o_eq hr.units) (d_var 1) d_int (nomark _)) (dss_one (ds_ret (d_var 4))) dss_nil)
      (dss_cons (ds_for (passes_of rfl) rfl (di_seq (d_tup (da_cons d_int (da_cons d_int da_nil)))) (dg_name (i := 5) sc_stretch_changes.nd rfl (Or.inl rfl)) (dss_cons (ds_set (i := 6) sc_stretch_changes.nd rfl (Or.inl rfl) (d_op o_mul (d_cal C_value_at (hr.mono (by decide)) (by rfl) passX (da_cons (d_var 0) (da_cons (d_var 2) da_nil))) (d_var 1)))
      (dss_one (ds_if (dt_w (dw_and (dt_cmp o_lt (d_var 6) (d_var 5) (nomark _)) (dw_and1 (dt_cmp o_ge (d_op o_mul (d_cal C_value_at (hr.mono (by decide)) (by rfl) passX (da_cons (d_var 0) (da_cons (d_var 3) da_nil))) (d_var 1)) (d_var 5) (nomark _))))) (dss_cons (ds_set (i := 7) sc_stretch_changes.nd rfl (Or.inl rfl) (d_cal C_first_reaching (hr.mono (by decide)) (by rfl) passX (da_cons (d_var 0) (da_cons (d_var 1) (da_cons (d_var 5) (da_cons (d_var 2) (da_cons (d_var 3) da_nil)))))))
      (dss_cons (ds_set (i := 8) sc_stretch_changes.nd rfl (Or.inl rfl) (d_cal C_sign_of (hr.mono (by decide)) (by rfl) passX (da_cons (d_cal C_value_at (hr.mono (by decide)) (by rfl) passX (da_cons (d_var 0) (da_cons (d_var 7) da_nil))) da_nil)))
      (dss_one (ds_if (dt_w (dw_or (dt_not (dt_of (d_var 4))) (dw_or1 (dt_cmp (o_ne hr.units) (d_ix i_ix (d_var 4) (d_un u_neg d_int) (fun _ _ => rfl)) (d_tup (da_cons (d_var 7) (da_cons (d_var 8) da_nil))) (nomark _))))) (dss_one (ds_expr (d_m PySem.F.plainAttrs_list PySem.F.slot_list_append PySem.F.type_list_append m_append (d_var 4) (da_cons (d_tup (da_cons (d_var 7) (da_cons (d_var 8) da_nil))) da_nil)))) dss_nil)))) dss_nil))))
      (dss_one (ds_ret (d_var 4))))))
set_option maxHeartbeats 4000000 in
theorem ok_signs (T : Txt mg) {n : Nat} {f_stretch_changes : Mir} (C_stretch_changes : Cal P w K mg base "stretch_changes" 3 ["polynomial", "direction", "low", "high"] f_stretch_changes) {f_far_end : Mir} (C_far_end : Cal P w K mg base "far_end" 2 ["polynomial", "direction", "low"] f_far_end) {f_signs : Mir} (C_signs : Cal P w K mg base "signs" (4 + n) ["polynomial"] f_signs) {f_difference : Mir} (C_difference : Cal P w K mg base "difference" 4 ["polynomial"] f_difference) {f_sign_of : Mir} (C_sign_of : Cal P w K mg base "sign_of" 1 ["number"] f_sign_of) {f_value_at : Mir} (C_value_at : Cal P w K mg base "value_at" 1 ["polynomial", "n"] f_value_at) {a : Addr} {fd : FuncData} (F : Fun K "signs" "signs" s_signs a fd) : FnOk P w K mg base (L2.CX P w) (4 + n + 1) a fd ["polynomial"] (spM K mg (r_signs f_stretch_changes f_far_end f_signs f_difference f_sign_of f_value_at)) :=
  fn_body (N := N_signs) F sc_signs fun cdv A outer s H E hr =>
      (dss_cons (ds_set (i := 1) sc_signs.nd rfl (Or.inl rfl) (d_lst (da_cons (d_tup (da_cons d_int (da_cons (d_cal C_sign_of (hr.mono (by omega)) (by rfl) passX (da_cons (d_cal C_value_at (hr.mono (by omega)) (by rfl) passX (da_cons (d_var 0) (da_cons d_int da_nil))) da_nil)) da_nil))) da_nil)))
      (dss_cons (ds_if (dt_cmp o_lt (d_callB c_len (by rfl) T.n_len (by decide +kernel) (da_cons (d_var 0) da_nil)) d_int (nomark _)) (dss_one (ds_ret (d_callTy c_tuple (by rfl) T.n_tuple (by decide +kernel) (da_cons (d_var 1) da_nil)))) dss_nil)
      (dss_cons (ds_set (i := 2) sc_signs.nd rfl (Or.inl rfl) (d_cal C_signs (hr.mono (by omega)) (by rfl) passX (da_cons (d_cal C_difference (hr.mono (by omega)) (by rfl) passX (da_cons (d_var 0) da_nil)) da_nil)))
      (dss_cons (ds_for (passes_of rfl) rfl (di_enumA (by rfl) T.n_enumerate (da_cons (d_var 2) da_nil) (len_cons len_nil)) (dg_tup rfl (dgs_cons (dg_name (i := 3) sc_signs.nd rfl (Or.inl rfl)) (dgs_cons (dg_tup rfl (dgs_cons (dg_name (i := 4) sc_signs.nd rfl (Or.inl rfl)) (dgs_cons (dg_name (i := 5) sc_signs.nd rfl (Or.inl rfl)) dgs_nil))) dgs_nil))) (dss_cons (ds_if (dt_cmp o_lt (d_op o_add (d_var 3) d_int) (d_callB c_len (by rfl) T.n_len (by decide +kernel) (da_cons (d_var 2) da_nil)) (nomark _)) (dss_one (ds_set (i := 6) sc_signs.nd rfl (Or.inl rfl) (d_ix i_ix (d_ix i_ix (d_var 2) (d_op o_add (d_var 3) d_int) (fun _ _ => rfl)) d_int (fun _ _ => rfl)))) (dss_one (ds_set (i := 6) sc_signs.nd rfl (Or.inl rfl) (d_cal C_far_end (hr.mono (by omega)) (by rfl) passX (da_cons (d_var 0) (da_cons (d_var 5) (da_cons (d_var 4) da_nil)))))))
      (dss_one (ds_set (i := 1) sc_signs.nd rfl (Or.inl rfl) (d_op o_add (d_var 1) (d_cal C_stretch_changes (hr.mono (by omega)) (by rfl) passX (da_cons (d_var 0) (da_cons (d_var 5) (da_cons (d_var 4) (da_cons (d_var 6) da_nil))))))))))
      (dss_one (ds_ret (d_callTy c_tuple (by rfl) T.n_tuple (by decide +kernel) (da_cons (d_var 1) da_nil))))))))
set_option maxHeartbeats 4000000 in
theorem ok_compare (T : Txt mg) {f_signs : Mir} (C_signs : Cal P w K mg base "signs" 44 ["polynomial"] f_signs) {f_subtracted : Mir} (C_subtracted : Cal P w K mg base "subtracted" 3 ["first", "second"] f_subtracted) {a : Addr} {fd : FuncData} (F : Fun K "compare" "compare" s_compare a fd) : FnOk P w K mg base (L2.CX P w) 45 a fd ["first", "second"] (spM K mg (r_compare f_signs f_subtracted)) :=
  fn_body (N := N_compare) F sc_compare fun cdv A outer s H E hr =>
      (dss_one (ds_ret (d_ix i_ix (d_cal C_signs (hr.mono (by decide)) (by rfl) passX (da_cons (d_cal C_subtracted (hr.mono (by decide)) (by rfl) passX (da_cons (d_var 0) (da_cons (d_var 1) da_nil))) da_nil)) (d_un u_neg d_int) (fun _ _ => rfl))))
set_option maxHeartbeats 4000000 in
theorem ok__law_tape (T : Txt mg) {a : Addr} {fd : FuncData} (F : Fun K "_law_tape" "_law_tape" s__law_tape a fd) : FnOk P w K mg base (L2.CX P w) 1 a fd ["_law_script"] (spM K mg (r__law_tape)) :=
  fn_body (N := N__law_tape) F sc__law_tape fun cdv A outer s H E hr =>
      (dss_cons (ds_set (i := 1) sc__law_tape.nd rfl (Or.inl rfl) d_int)
      (dss_cons (ds_for (passes_of rfl) rfl (di_seq (d_var 0)) (dg_name (i := 2) sc__law_tape.nd rfl (Or.inl rfl)) (dss_one (ds_set (i := 1) sc__law_tape.nd rfl (Or.inl rfl) (d_op o_mod (d_callTy c_int (by rfl) T.n_int (by decide +kernel) (da_cons (d_op o_add (d_op o_mul (d_var 1) d_int) (d_callB c_abs (by rfl) T.n_abs (by decide +kernel) (da_cons (d_callTy c_int (by rfl) T.n_int (by decide +kernel) (da_cons (d_var 2) da_nil)) da_nil))) da_nil)) d_int))))
      (dss_one (ds_ret (d_lst (da_cons (d_callTy c_list (by rfl) T.n_list (by decide +kernel) (da_cons (d_var 0) da_nil)) (da_cons d_int (da_cons d_int (da_cons (d_var 1) da_nil)))))))))
set_option maxHeartbeats 4000000 in
theorem ok__law_draw (T : Txt mg) {a : Addr} {fd : FuncData} (F : Fun K "_law_draw" "_law_draw" s__law_draw a fd) : FnOk P w K mg base (L2.CX P w) 1 a fd ["_law_tape_here", "_law_many"] (spM K mg (r__law_draw)) :=
  fn_body (N := N__law_draw) F sc__law_draw fun cdv A outer s H E hr =>
      (dss_cons (ds_if (dt_cmp (o_eq hr.units) (d_ix i_ix (d_var 0) d_int (fun _ _ => rfl)) d_int (nomark _)) (dss_cons (ds_set (i := 2) sc__law_draw.nd rfl (Or.inl rfl) (d_ix i_ix (d_var 0) d_int (fun _ _ => rfl)))
      (dss_cons (ds_set (i := 3) sc__law_draw.nd rfl (Or.inl rfl) d_int)
      (dss_cons (ds_if (dt_cmp o_lt (d_var 2) (d_callB c_len (by rfl) T.n_len (by decide +kernel) (da_cons (d_ix i_ix (d_var 0) d_int (fun _ _ => rfl)) da_nil)) (nomark _)) (dss_one (ds_set (i := 3) sc__law_draw.nd rfl (Or.inl rfl) (d_callB c_abs (by rfl) T.n_abs (by decide +kernel) (da_cons (d_callTy c_int (by rfl) T.n_int (by decide +kernel) (da_cons (d_ix i_ix (d_ix i_ix (d_var 0) d_int (fun _ _ => rfl)) (d_var 2) (fun _ _ => rfl)) da_nil)) da_nil)))) (dss_cons (ds_sub s_list (d_op o_mod (d_callTy c_int (by rfl) T.n_int (by decide +kernel) (da_cons (d_op o_add (d_op o_add (d_op o_mul (d_ix i_ix (d_var 0) d_int (fun _ _ => rfl)) d_int) (d_var 2)) d_int) da_nil)) d_int) (d_var 0) d_int)
      (dss_one (ds_set (i := 3) sc__law_draw.nd rfl (Or.inl rfl) (d_ix i_ix (d_var 0) d_int (fun _ _ => rfl))))))
      (dss_cons (ds_sub s_list (d_op o_add (d_var 2) d_int) (d_var 0) d_int)
      (dss_cons (ds_if (dt_cmp o_lt (d_var 3) (d_op o_pow d_int d_int) (nomark _)) (dss_cons (ds_set (i := 3) sc__law_draw.nd rfl (Or.inl rfl) (d_op o_mod (d_callTy c_int (by rfl) T.n_int (by decide +kernel) (da_cons (d_op o_add (d_op o_add (d_op o_mul (d_var 3) d_int) (d_op o_mul (d_var 2) d_int)) d_int) da_nil)) d_int))
      (dss_cons (ds_set (i := 3) sc__law_draw.nd rfl (Or.inl rfl) (d_op o_mod (d_callTy c_int (by rfl) T.n_int (by decide +kernel) (da_cons (d_op o_mul (d_var 3) d_int) da_nil)) d_int))
      (dss_one (ds_ret (d_op o_mod (d_callTy c_int (by rfl) T.n_int (by decide +kernel) (da_cons (d_var 3) da_nil)) (d_callB (c_max2 rfl) (by rfl) T.n_max (by decide +kernel) (da_cons (d_var 1) (da_cons d_int da_nil)))))))) dss_nil)
      (dss_one (ds_sub s_list (d_var 3) (d_var 0) d_int))))))) dss_nil)
      (dss_cons (ds_set (i := 3) sc__law_draw.nd rfl (Or.inl rfl) (d_ix i_ix (d_var 0) d_int (fun _ _ => rfl)))
      (dss_cons (ds_sub s_list (d_op o_fdiv (d_var 3) (d_callB (c_max2 rfl) (by rfl) T.n_max (by decide +kernel) (da_cons (d_var 1) (da_cons d_int da_nil)))) (d_var 0) d_int)
      (dss_one (ds_ret (d_op o_mod (d_callTy c_int (by rfl) T.n_int (by decide +kernel) (da_cons (d_var 3) da_nil)) (d_callB (c_max2 rfl) (by rfl) T.n_max (by decide +kernel) (da_cons (d_var 1) (da_cons d_int da_nil)))))))))
set_option maxHeartbeats 4000000 in
theorem ok__law_trimmed (T : Txt mg) {a : Addr} {fd : FuncData} (F : Fun K "_law_trimmed" "_law_trimmed" s__law_trimmed a fd) : FnOk P w K mg base (L2.CX P w) 1 a fd ["_law_numbers"] (spM K mg (r__law_trimmed)) :=
  fn_body (N := N__law_trimmed) F sc__law_trimmed fun cdv A outer s H E hr =>
      (dss_cons (ds_set (i := 1) sc__law_trimmed.nd rfl (Or.inl rfl) d_int)
      (dss_cons (ds_for (passes_of rfl) rfl (di_range1 (by rfl) T.n_range (da_cons (d_callB c_len (by rfl) T.n_len (by decide +kernel) (da_cons (d_var 0) da_nil)) da_nil) (len_cons len_nil)) (dg_name (i := 2) sc__law_trimmed.nd rfl (Or.inl rfl)) (dss_one (ds_if (dt_cmp (o_ne hr.units) (d_ix i_ix (d_var 0) (d_var 2) (fun _ _ => rfl)) d_int (nomark _)) (dss_one (ds_set (i := 1) sc__law_trimmed.nd rfl (Or.inl rfl) (d_op o_add (d_var 2) d_int))) dss_nil)))
      (dss_one (ds_ret (d_callTy c_tuple (by rfl) T.n_tuple (by decide +kernel) (da_cons (d_slice (d_var 0) do_none (do_some (d_var 1))) da_nil))))))
set_option maxHeartbeats 4000000 in
theorem ok__law_plus (T : Txt mg) {f__law_trimmed : Mir} (C__law_trimmed : Cal P w K mg base "_law_trimmed" 1 ["_law_numbers"] f__law_trimmed) {a : Addr} {fd : FuncData} (F : Fun K "_law_plus" "_law_plus" s__law_plus a fd) : FnOk P w K mg base (L2.CX P w) 2 a fd ["_law_first", "_law_second"] (spM K mg (r__law_plus f__law_trimmed)) :=
  fn_body (N := N__law_plus) F sc__law_plus fun cdv A outer s H E hr =>
      (dss_cons (ds_set (i := 2) sc__law_plus.nd rfl (Or.inl rfl) (d_lst da_nil))
      (dss_cons (ds_for (passes_of rfl) rfl (di_range1 (by rfl) T.n_range (da_cons (d_callB (c_max2 rfl) (by rfl) T.n_max (by decide +kernel) (da_cons (d_callB c_len (by rfl) T.n_len (by decide +kernel) (da_cons (d_var 0) da_nil)) (da_cons (d_callB c_len (by rfl) T.n_len (by decide +kernel) (da_cons (d_var 1) da_nil)) da_nil))) da_nil) (len_cons len_nil)) (dg_name (i := 3) sc__law_plus.nd rfl (Or.inl rfl)) (dss_cons (ds_set (i := 4) sc__law_plus.nd rfl (Or.inl rfl) d_int)
      (dss_cons (ds_if (dt_cmp o_lt (d_var 3) (d_callB c_len (by rfl) T.n_len (by decide +kernel) (da_cons (d_var 0) da_nil)) (nomark _)) (dss_one (ds_set (i := 4) sc__law_plus.nd rfl (Or.inl rfl) (d_ix i_ix (d_var 0) (d_var 3) (fun _ _ => rfl)))) dss_nil)
      (dss_cons (ds_if (dt_cmp o_lt (d_var 3) (d_callB c_len (by rfl) T.n_len (by decide +kernel) (da_cons (d_var 1) da_nil)) (nomark _)) (dss_one (ds_set (i := 4) sc__law_plus.nd rfl (Or.inl rfl) (d_op o_add (d_var 4) (d_ix i_ix (d_var 1) (d_var 3) (fun _ _ => rfl))))) dss_nil)
      (dss_one (ds_expr (d_m PySem.F.plainAttrs_list PySem.F.slot_list_append PySem.F.type_list_append m_append (d_var 2) (da_cons (d_var 4) da_nil))))))))
      (dss_one (ds_ret (d_cal C__law_trimmed (hr.mono (by decide)) (by rfl) passX (da_cons (d_var 2) da_nil))))))
set_option maxHeartbeats 4000000 in
theorem ok__law_times (T : Txt mg) {f__law_trimmed : Mir} (C__law_trimmed : Cal P w K mg base "_law_trimmed" 1 ["_law_numbers"] f__law_trimmed) {a : Addr} {fd : FuncData} (F : Fun K "_law_times" "_law_times" s__law_times a fd) : FnOk P w K mg base (L2.CX P w) 2 a fd ["_law_first", "_law_second"] (spM K mg (r__law_times f__law_trimmed)) :=
  fn_body (N := N__law_times) F sc__law_times fun cdv A outer s H E hr =>
      (dss_cons (ds_setLc (i := 2) (own := [("_law_k", 3)]) (t := (.nm 3)) (by rfl) sc__law_times.nd (by rfl) rfl (sw_true rfl rfl rfl (by decide +kernel)) (di_range1 (by rfl) T.n_range (da_cons (d_op o_add (d_callB c_len (by rfl) T.n_len (by decide +kernel) (da_cons (d_var 0) da_nil)) (d_callB c_len (by rfl) T.n_len (by decide +kernel) (da_cons (d_var 1) da_nil))) da_nil) (len_cons len_nil)) (blkOk_by (own := [("_law_k", 3)]) (N := N__law_times) (sc := defScope s__law_times) (by decide +kernel)) (fun _ _ _ _ _ => (dg_name (i := 3) sc__law_times.nd rfl (Or.inl rfl))) (fun _ _ _ _ _ => dts_nil) (fun _ _ _ _ _ => d_int) (by decide))
      (dss_cons (ds_for (passes_of rfl) rfl (di_range1 (by rfl) T.n_range (da_cons (d_callB c_len (by rfl) T.n_len (by decide +kernel) (da_cons (d_var 0) da_nil)) da_nil) (len_cons len_nil)) (dg_name (i := 3) sc__law_times.nd rfl (Or.inl rfl)) (dss_one (ds_for (passes_of rfl) rfl (di_range1 (by rfl) T.n_range (da_cons (d_callB c_len (by rfl) T.n_len (by decide +kernel) (da_cons (d_var 1) da_nil)) da_nil) (len_cons len_nil)) (dg_name (i := 4) sc__law_times.nd rfl (Or.inl rfl)) (dss_one (ds_sub s_list (d_op o_add (d_ix i_ix (d_var 2) (d_op o_add (d_var 3) (d_var 4)) (fun _ _ => rfl)) (d_op o_mul (d_ix i_ix (d_var 0) (d_var 3) (fun _ _ => rfl)) (d_ix i_ix (d_var 1) (d_var 4) (fun _ _ => rfl)))) (d_var 2) (d_op o_add (d_var 3) (d_var 4)))))))
      (dss_one (ds_ret (d_cal C__law_trimmed (hr.mono (by decide)) (by rfl) passX (da_cons (d_var 2) da_nil))))))
set_option maxHeartbeats 4000000 in
theorem ok__law_value (T : Txt mg) {a : Addr} {fd : FuncData} (F : Fun K "_law_value" "_law_value" s__law_value a fd) : FnOk P w K mg base (L2.CX P w) 1 a fd ["_law_polynomial_here", "_law_n"] (spM K mg (r__law_value)) :=
  fn_body (N := N__law_value) F sc__law_value fun cdv A outer s H E hr =>
      (dss_cons (ds_set (i := 2) sc__law_value.nd rfl (Or.inl rfl) d_int)
      (dss_cons (ds_for (passes_of rfl) rfl (di_range1 (by rfl) T.n_range (da_cons (d_callB c_len (by rfl) T.n_len (by decide +kernel) (da_cons (d_var 0) da_nil)) da_nil) (len_cons len_nil)) (dg_name (i := 3) sc__law_value.nd rfl (Or.inl rfl)) (dss_one (ds_set (i := 2) sc__law_value.nd rfl (Or.inl rfl) (d_op o_add (d_op o_mul (d_var 2) (d_var 1)) (d_ix i_ix (d_var 0) (d_op o_sub (d_op o_sub (d_callB c_len (by rfl) T.n_len (by decide +kernel) (da_cons (d_var 0) da_nil)) d_int) (d_var 3)) (fun _ _ => rfl))))))
      (dss_one (ds_ret (d_var 2)))))
set_option maxHeartbeats 4000000 in
theorem ok__law_sign (T : Txt mg) {a : Addr} {fd : FuncData} (F : Fun K "_law_sign" "_law_sign" s__law_sign a fd) : FnOk P w K mg base (L2.CX P w) 1 a fd ["_law_number"] (spM K mg (r__law_sign)) :=
  fn_body (N := N__law_sign) F sc__law_sign fun cdv A outer s H E hr =>
      (dss_one (ds_ret (d_op o_sub (d_callTy c_int (by rfl) T.n_int (by decide +kernel) (da_cons (d_cmp o_gt (d_var 0) d_int (nomark _)) da_nil)) (d_callTy c_int (by rfl) T.n_int (by decide +kernel) (da_cons (d_cmp o_lt (d_var 0) d_int (nomark _)) da_nil)))))
set_option maxHeartbeats 4000000 in
theorem ok__law_polynomial (T : Txt mg) {f__law_plus : Mir} (C__law_plus : Cal P w K mg base "_law_plus" 2 ["_law_first", "_law_second"] f__law_plus) {f__law_draw : Mir} (C__law_draw : Cal P w K mg base "_law_draw" 1 ["_law_tape_here", "_law_many"] f__law_draw) {f__law_times : Mir} (C__law_times : Cal P w K mg base "_law_times" 2 ["_law_first", "_law_second"] f__law_times) {f__law_trimmed : Mir} (C__law_trimmed : Cal P w K mg base "_law_trimmed" 1 ["_law_numbers"] f__law_trimmed) {a : Addr} {fd : FuncData} (F : Fun K "_law_polynomial" "_law_polynomial" s__law_polynomial a fd) : FnOk P w K mg base (L2.CX P w) 3 a fd ["_law_tape_here", "_law_most"] (spM K mg (r__law_polynomial f__law_plus f__law_draw f__law_times f__law_trimmed)) :=
  fn_body (N := N__law_polynomial) F sc__law_polynomial fun cdv A outer s H E hr =>
      (dss_cons (ds_set (i := 2) sc__law_polynomial.nd rfl (Or.inl rfl) (d_cal C__law_draw (hr.mono (by decide)) (by rfl) passX (da_cons (d_var 0) (da_cons (d_op o_add (d_var 1) d_int) da_nil))))
      (dss_cons (ds_set (i := 3) sc__law_polynomial.nd rfl (Or.inl rfl) (d_cal C__law_draw (hr.mono (by decide)) (by rfl) passX (da_cons (d_var 0) (da_cons d_int da_nil))))
      (dss_cons (ds_if (dt_cmp o_lt (d_var 3) d_int (nomark _)) (dss_cons (ds_set (i := 4) sc__law_polynomial.nd rfl (Or.inr rfl) (d_ix i_ix (d_lst (da_cons d_int (da_cons (d_op o_pow d_int d_int) da_nil))) (d_var 3) (fun _ _ => rfl)))
      (dss_one (ds_ret (d_cal C__law_trimmed (hr.mono (by decide)) (by rfl) passX (da_cons (d_lc (own := [("_law_k", 6)]) (t := (.nm 6)) (by rfl) sc__law_polynomial.nd (di_range1 (by rfl) T.n_range (da_cons (d_var 2) da_nil) (len_cons len_nil)) (blkOk_by (own := [("_law_k", 6)]) (N := N__law_polynomial) (sc := defScope s__law_polynomial) (by decide +kernel)) (fun _ _ _ _ _ => (dg_name (i := 6) sc__law_polynomial.nd rfl (Or.inl rfl))) (fun _ _ _ _ _ => dts_nil) (fun _ _ _ _ _ => (d_op o_sub (d_cal C__law_draw (hr.mono (by decide)) (by rfl) passL (da_cons (d_var 0) (da_cons (d_op o_add (d_op o_mul d_int (d_var 4)) d_int) da_nil))) (d_var 4))) (by decide)) da_nil))))) dss_nil)
      (dss_cons (ds_set (i := 5) sc__law_polynomial.nd rfl (Or.inl rfl) (d_tup (da_cons (d_ix i_ix (d_lst (da_cons d_int (da_cons (d_op o_sub d_int d_int) da_nil))) (d_cal C__law_draw (hr.mono (by decide)) (by rfl) passX (da_cons (d_var 0) (da_cons d_int da_nil))) (fun _ _ => rfl)) da_nil)))
      (dss_cons (ds_set (i := 2) sc__law_polynomial.nd rfl (Or.inl rfl) (d_callB (c_max2 rfl) (by rfl) T.n_max (by decide +kernel) (da_cons (d_op o_sub (d_var 2) d_int) (da_cons d_int da_nil))))
      (dss_cons (ds_set (i := 4) sc__law_polynomial.nd rfl (Or.inr rfl) (d_ix i_ix (d_lst (da_cons d_int (da_cons d_int (da_cons d_int (da_cons d_int (da_cons d_int (da_cons d_int (da_cons d_int (da_cons d_int (da_cons d_int da_nil)))))))))) (d_var 2) (fun _ _ => rfl)))
      (dss_cons (ds_if (dt_cmp (o_eq hr.units) (d_cal C__law_draw (hr.mono (by decide)) (by rfl) passX (da_cons (d_var 0) (da_cons d_int da_nil))) d_int (nomark _)) (dss_one (ds_set (i := 4) sc__law_polynomial.nd rfl (Or.inr rfl) (d_callB (c_min2 rfl) (by rfl) T.n_min (by decide +kernel) (da_cons (d_var 4) (da_cons d_int da_nil))))) dss_nil)
      (dss_cons (ds_for (passes_of rfl) rfl (di_range1 (by rfl) T.n_range (da_cons (d_var 2) da_nil) (len_cons len_nil)) (dg_name (i := 6) sc__law_polynomial.nd rfl (Or.inl rfl)) (dss_one (ds_set (i := 5) sc__law_polynomial.nd rfl (Or.inl rfl) (d_cal C__law_times (hr.mono (by decide)) (by rfl) passX (da_cons (d_var 5) (da_cons (d_tup (da_cons (d_op o_sub d_int (d_cal C__law_draw (hr.mono (by decide)) (by rfl) passX (da_cons (d_var 0) (da_cons (d_op o_add (d_var 4) d_int) da_nil)))) (da_cons d_int da_nil))) da_nil))))))
      (dss_cons (ds_if (dt_cmp (o_eq hr.units) (d_var 3) d_int (nomark _)) (dss_one (ds_set (i := 5) sc__law_polynomial.nd rfl (Or.inl rfl) (d_cal C__law_plus (hr.mono (by decide)) (by rfl) passX (da_cons (d_var 5) (da_cons (d_tup (da_cons (d_op o_sub (d_cal C__law_draw (hr.mono (by decide)) (by rfl) passX (da_cons (d_var 0) (da_cons d_int da_nil))) d_int) da_nil)) da_nil))))) dss_nil)
      (dss_one (ds_ret (d_var 5))))))))))))
set_option maxHeartbeats 4000000 in
theorem ok__law_wholes (T : Txt mg) {a : Addr} {fd : FuncData} (F : Fun K "_law_wholes" "_law_wholes" s__law_wholes a fd) : FnOk P w K mg base (L2.CX P w) 1 a fd ["_law_told"] (spM K mg (r__law_wholes)) :=
  fn_body (N := N__law_wholes) F sc__law_wholes fun cdv A outer s H E hr =>
      (dss_cons (ds_if (dt_not (dt_of (d_isi (by rfl) T.n_isinstance (by rfl) T.n_tuple (by decide +kernel) (d_var 0)))) (dss_one (ds_ret d_bl)) dss_nil)
      (dss_one (ds_ret (d_cmp (o_eq hr.units) (d_callB c_len (by rfl) T.n_len (by decide +kernel) (da_cons (d_lc (own := [("_law_number", 1)]) (t := (.nm 1)) (by rfl) sc__law_wholes.nd (di_seq (d_var 0)) (blkOk_by (own := [("_law_number", 1)]) (N := N__law_wholes) (sc := defScope s__law_wholes) (by decide +kernel)) (fun _ _ _ _ _ => (dg_name (i := 1) sc__law_wholes.nd rfl (Or.inl rfl))) (fun _ _ _ _ _ => (dts_one (dt_w (dw_or (dt_not (dt_of (d_isi (by rfl) T.n_isinstance (by rfl) T.n_int (by decide +kernel) (d_var 1)))) (dw_or1 (dt_of (d_isi (by rfl) T.n_isinstance (by rfl) T.n_bool (by decide +kernel) (d_var 1)))))))) (fun _ _ _ _ _ => (d_var 1)) (by decide)) da_nil)) d_int (nomark _)))))
set_option maxHeartbeats 4000000 in
theorem ok_law (T : Txt mg) {f_compare : Mir} (C_compare : Cal P w K mg base "compare" 45 ["first", "second"] f_compare) {f__law_sign : Mir} (C__law_sign : Cal P w K mg base "_law_sign" 1 ["_law_number"] f__law_sign) {f__law_value : Mir} (C__law_value : Cal P w K mg base "_law_value" 1 ["_law_polynomial_here", "_law_n"] f__law_value) {f__law_draw : Mir} (C__law_draw : Cal P w K mg base "_law_draw" 1 ["_law_tape_here", "_law_many"] f__law_draw) {f__law_wholes : Mir} (C__law_wholes : Cal P w K mg base "_law_wholes" 1 ["_law_told"] f__law_wholes) {f__law_plus : Mir} (C__law_plus : Cal P w K mg base "_law_plus" 2 ["_law_first", "_law_second"] f__law_plus) {f__law_polynomial : Mir} (C__law_polynomial : Cal P w K mg base "_law_polynomial" 3 ["_law_tape_here", "_law_most"] f__law_polynomial) {f__law_tape : Mir} (C__law_tape : Cal P w K mg base "_law_tape" 1 ["_law_script"] f__law_tape) {a : Addr} {fd : FuncData} (F : Fun K "law" "law" s_law a fd) : FnOk P w K mg base (L2.CX P w) 46 a fd ["_law_script"] (spM K mg (r_law f_compare f__law_sign f__law_value f__law_draw f__law_wholes f__law_plus f__law_polynomial f__law_tape)) :=
  fn_body (N := N_law) F sc_law fun cdv A outer s H E hr =>
      (dss_cons (ds_set (i := 1) sc_law.nd rfl (Or.inl rfl) (d_cal C__law_tape (hr.mono (by decide)) (by rfl) passX (da_cons (d_var 0) da_nil)))
      (dss_cons (ds_set (i := 2) sc_law.nd rfl (Or.inl rfl) (d_cal C__law_polynomial (hr.mono (by decide)) (by rfl) passX (da_cons (d_var 1) (da_cons d_int da_nil))))
      (dss_cons (ds_set (i := 3) sc_law.nd rfl (Or.inl rfl) (d_cal C__law_polynomial (hr.mono (by decide)) (by rfl) passX (da_cons (d_var 1) (da_cons d_int da_nil))))
      (dss_cons (ds_if (dt_cmp (o_eq hr.units) (d_cal C__law_draw (hr.mono (by decide)) (by rfl) passX (da_cons (d_var 1) (da_cons d_int da_nil))) d_int (nomark _)) (dss_one (ds_set (i := 3) sc_law.nd rfl (Or.inl rfl) (d_cal C__law_plus (hr.mono (by decide)) (by rfl) passX (da_cons (d_var 2) (da_cons (d_var 3) da_nil))))) dss_nil)
      (dss_cons (ds_if (dt_cmp o_gt (d_callB c_len (by rfl) T.n_len (by decide +kernel) (da_cons (d_lc (own := [("_law_number", 9)]) (t := (.nm 9)) (by rfl) sc_law.nd (di_seq (d_var 3)) (blkOk_by (own := [("_law_number", 9)]) (N := N_law) (sc := defScope s_law) (by decide +kernel)) (fun _ _ _ _ _ => (dg_name (i := 9) sc_law.nd rfl (Or.inl rfl))) (fun _ _ _ _ _ => (dts_one (dt_cmp o_gt (d_callB c_abs (by rfl) T.n_abs (by decide +kernel) (da_cons (d_var 9) da_nil)) (d_op o_pow d_int d_int) (nomark _)))) (fun _ _ _ _ _ => (d_var 9)) (by decide)) da_nil)) d_int (nomark _)) (dss_one (ds_set (i := 3) sc_law.nd rfl (Or.inl rfl) (d_var 2))) dss_nil)
      (dss_cons (ds_set (i := 4) sc_law.nd rfl (Or.inl rfl) (d_cal C__law_plus (hr.mono (by decide)) (by rfl) passX (da_cons (d_var 2) (da_cons (d_callTy c_tuple (by rfl) T.n_tuple (by decide +kernel) (da_cons (d_lc (own := [("_law_number", 9)]) (t := (.nm 9)) (by rfl) sc_law.nd (di_seq (d_var 3)) (blkOk_by (own := [("_law_number", 9)]) (N := N_law) (sc := defScope s_law) (by decide +kernel)) (fun _ _ _ _ _ => (dg_name (i := 9) sc_law.nd rfl (Or.inl rfl))) (fun _ _ _ _ _ => dts_nil) (fun _ _ _ _ _ => (d_op o_sub d_int (d_var 9))) (by decide)) da_nil)) da_nil))))
      (dss_cons (ds_set (i := 5) sc_law.nd rfl (Or.inl rfl) d_int)
      (dss_cons (ds_if (dt_of (d_var 4)) (dss_one (ds_set (i := 5) sc_law.nd rfl (Or.inl rfl) (d_cal C__law_sign (hr.mono (by decide)) (by rfl) passX (da_cons (d_ix i_ix (d_var 4) (d_op o_sub (d_callB c_len (by rfl) T.n_len (by decide +kernel) (da_cons (d_var 4) da_nil)) d_int) (fun _ _ => rfl)) da_nil)))) dss_nil)
      (dss_cons (ds_set (i := 6) sc_law.nd rfl (Or.inl rfl) (d_cal C_compare (hr.mono (by decide)) (by rfl) passX (da_cons (d_var 2) (da_cons (d_var 3) da_nil))))
      (dss_cons (ds_if (dt_w (dw_or (dt_not (dt_of (d_cal C__law_wholes (hr.mono (by decide)) (by rfl) passX (da_cons (d_var 6) da_nil)))) (dw_or (dt_cmp (o_ne hr.units) (d_callB c_len (by rfl) T.n_len (by decide +kernel) (da_cons (d_var 6) da_nil)) d_int (nomark _)) (dw_or (dt_cmp (o_ne hr.units) (d_ix i_ix (d_var 6) d_int (fun _ _ => rfl)) (d_var 5) (nomark _)) (dw_or1 (dt_cmp o_lt (d_ix i_ix (d_var 6) d_int (fun _ _ => rfl)) d_int (nomark _))))))) (dss_one (ds_ret d_bl)) dss_nil)
      (dss_cons (ds_set (i := 7) sc_law.nd rfl (Or.inl rfl) (d_cal C__law_draw (hr.mono (by decide)) (by rfl) passX (da_cons (d_var 1) (da_cons (d_op o_pow d_int d_int) da_nil))))
      (dss_cons (ds_if (dt_of (d_var 0)) (dss_one (ds_set (i := 7) sc_law.nd rfl (Or.inl rfl) (d_op o_add (d_var 7) (d_callB c_abs (by rfl) T.n_abs (by decide +kernel) (da_cons (d_callTy c_int (by rfl) T.n_int (by decide +kernel) (da_cons (d_ix i_ix (d_var 0) d_int (fun _ _ => rfl)) da_nil)) da_nil))))) dss_nil)
      (dss_cons (ds_for (passes_of rfl) rfl (di_seq (d_lst (da_cons (d_ix i_ix (d_var 6) d_int (fun _ _ => rfl)) (da_cons (d_op o_add (d_ix i_ix (d_var 6) d_int (fun _ _ => rfl)) d_int) (da_cons (d_op o_add (d_ix i_ix (d_var 6) d_int (fun _ _ => rfl)) d_int) (da_cons (d_op o_add (d_ix i_ix (d_var 6) d_int (fun _ _ => rfl)) (d_var 7)) da_nil)))))) (dg_name (i := 8) sc_law.nd rfl (Or.inl rfl)) (dss_one (ds_if (dt_cmp (o_ne hr.units) (d_cal C__law_sign (hr.mono (by decide)) (by rfl) passX (da_cons (d_cal C__law_value (hr.mono (by decide)) (by rfl) passX (da_cons (d_var 4) (da_cons (d_var 8) da_nil))) da_nil)) (d_var 5) (nomark _)) (dss_one (ds_ret d_bl)) dss_nil)))
      (dss_cons (ds_if (dt_w (dw_and (dt_cmp o_gt (d_ix i_ix (d_var 6) d_int (fun _ _ => rfl)) d_int (nomark _)) (dw_and1 (dt_cmp (o_eq hr.units) (d_cal C__law_sign (hr.mono (by decide)) (by rfl) passX (da_cons (d_cal C__law_value (hr.mono (by decide)) (by rfl) passX (da_cons (d_var 4) (da_cons (d_op o_sub (d_ix i_ix (d_var 6) d_int (fun _ _ => rfl)) d_int) da_nil))) da_nil)) (d_var 5) (nomark _))))) (dss_one (ds_ret d_bl)) dss_nil)
      (dss_one (ds_ret (d_cmp (o_eq hr.units) (d_cal C_compare (hr.mono (by decide)) (by rfl) passX (da_cons (d_var 3) (da_cons (d_var 2) da_nil))) (d_tup (da_cons (d_ix i_ix (d_var 6) d_int (fun _ _ => rfl)) (da_cons (d_op o_sub d_int (d_var 5)) da_nil))) (nomark _))))))))))))))))))
end
end LW
namespace LW
open PySem PySem.Spec PyProof.Rows L2 RT RZ DL
/-- the tape at t, the copied script at s -/
structure Tp (S : Sto) (t s : Nat) : Prop where
  tape : ∃ p n g : Int, S[t]? = some (.lst [.ref s, .int p, .int n, .int g]) ∧ 0 ≤ p
  src : ∃ ns : List Int, S[s]? = some (.lst (ns.map D.int))
  ne : t ≠ s
  cl : ClS S
theorem small_log {m : Int} (h : m.natAbs < 2 ^ 64) : m.natAbs.log2 < 9000 := by
  by_cases h0 : m.natAbs = 0
  · rw [h0]; decide
  · have := (Nat.log2_lt h0).mpr h
    omega
set_option maxHeartbeats 2000000 in
theorem draw_ex {S : Sto} {t s : Nat} {m : Int} (T : Tp S t s) (hm : m.natAbs < 2 ^ 62) : ∃ v q, F__law_draw [.ref t, .int m] S = some (.ok (.int v), S.set t (.lst q)) ∧ 0 ≤ v ∧ v < max m 1 ∧ Tp (S.set t (.lst q)) t s := by
  obtain ⟨⟨p, n, g, ht, hp⟩, ⟨ns, hs⟩, ne, cl⟩ := T
  have lt : t < S.length := lst_lt ht
  have ls : s < S.length := lst_lt hs
  have tp : ∀ p' n' g' : Int, 0 ≤ p' → Tp (S.set t (.lst [.ref s, .int p', .int n', .int g'])) t s := fun p' n' g' h => ⟨⟨p', n', g', by simp [lt], h⟩, ⟨ns, by rw [List.getElem?_set_ne ne]; exact hs⟩, ne, cl.set (by simp [O.items, ls])⟩
  have mod1 : ∀ x : Int, 0 ≤ x % (if 1 > m then 1 else m) ∧ x % (if 1 > m then 1 else m) < max m 1 := fun x => by
    have h0 : (0 : Int) < (if 1 > m then 1 else m) := by split <;> omega
    refine ⟨Int.emod_nonneg _ (by omega), Int.lt_of_lt_of_le (Int.emod_lt_of_pos _ h0) (by split <;> omega)⟩
  have pos1 : (0 : Int) < (if 1 > m then 1 else m) := by split <;> omega
  have div2 : CDivW n (if 2 > m then 2 else m) := ⟨by split <;> omega, small_log (by split <;> omega)⟩
  have div2' : ∀ n : Int, CDivW n (if 2 > m then 2 else m) := fun n => ⟨by split <;> omega, small_log (by split <;> omega)⟩
  have a0 : ∀ (p n g : Int), atI [D.ref s, .int p, .int n, .int g] 0 = some (.ref s) := fun _ _ _ => rfl
  have a1 : ∀ (p n g : Int), atI [D.ref s, .int p, .int n, .int g] 1 = some (.int p) := fun _ _ _ => rfl
  have a2 : ∀ (p n g : Int), atI [D.ref s, .int p, .int n, .int g] 2 = some (.int n) := fun _ _ _ => rfl
  have a3 : ∀ (p n g : Int), atI [D.ref s, .int p, .int n, .int g] 3 = some (.int g) := fun _ _ _ => rfl
  have gs : ∀ o : O, (S.set t o)[t]? = some o := fun o => List.getElem?_set_self lt
  have gn : ∀ o : O, (S.set t o)[s]? = some (.lst (ns.map D.int)) := fun o => by rw [List.getElem?_set_ne ne]; exact hs
  have i1 : ixN 4 1 = some 1 := rfl
  have i2 : ixN 4 2 = some 2 := rfl
  have i3 : ixN 4 3 = some 3 := rfl
  suffices h : ∃ x p' n' g' : Int, 0 ≤ p' ∧ r__law_draw [.ref t, .int m] S = some (.ok (.int (x % (if 1 > m then 1 else m))), S.set t (.lst [.ref s, .int p', .int n', .int g'])) by
    obtain ⟨x, p', n', g', h0, h⟩ := h
    exact ⟨_, _, gc_same h (List.length_set ..), (mod1 x).1, (mod1 x).2, tp p' n' g' h0⟩
  by_cases hn : n = 0
  · subst hn
    by_cases hpl : p < ns.length
    · obtain ⟨k, hk⟩ : ∃ k : Nat, p = k := ⟨p.toNat, by omega⟩
      have hk2 : k < ns.length := by omega
      have hat : atI (ns.map D.int) p = some (.int ns[k]) := atI_of hk (by simp [hk2])
      by_cases hb : (if ns[k] < 0 then -ns[k] else ns[k]) < 1000000000000000000
      · refine ⟨(((if ns[k] < 0 then -ns[k] else ns[k]) * 48271 + p * 69621 + 5) % 2147483647 * 69621) % 2147483629, p + 1, 0, g, by omega, ?_⟩
        simp [m__law_draw, E_seq_ref, ht, hs, a0, a1, a2, a3, i1, i2, i3, hpl, hat, gs, gn, hb, pos1]
      · refine ⟨(if ns[k] < 0 then -ns[k] else ns[k]), p + 1, (if ns[k] < 0 then -ns[k] else ns[k]) / (if 2 > m then 2 else m), g, by omega, ?_⟩
        simp [m__law_draw, E_seq_ref, ht, hs, a0, a1, a2, a3, i1, i2, i3, hpl, hat, gs, gn, hb, pos1, E_gFdiv, div2']
    · have hg : (g * 48271 + p + 1) % 2147483647 < 1000000000000000000 := by omega
      refine ⟨(((g * 48271 + p + 1) % 2147483647 * 48271 + p * 69621 + 5) % 2147483647 * 69621) % 2147483629, p + 1, 0, (g * 48271 + p + 1) % 2147483647, by omega, ?_⟩
      simp [m__law_draw, E_seq_ref, ht, hs, a0, a1, a2, a3, i1, i2, i3, hpl, gs, gn, hg, pos1]
  · refine ⟨n, p, n / (if 2 > m then 2 else m), g, hp, ?_⟩
    simp [m__law_draw, E_seq_ref, ht, hs, a0, a1, a2, a3, i1, i2, i3, gs, gn, hn, pos1, E_gFdiv, div2']

theorem Tp.app {S T : Sto} {t s : Nat} (h : Tp S t s) (c : ClS (S ++ T)) : Tp (S ++ T) t s := by
  obtain ⟨⟨p, n, g, ht, hp⟩, ⟨ns, hs⟩, ne, cl⟩ := h
  exact ⟨⟨p, n, g, get_old ht, hp⟩, ⟨ns, get_old hs⟩, ne, c⟩
theorem Tp.lt {S : Sto} {t s : Nat} (h : Tp S t s) : t < S.length := by
  obtain ⟨p, n, g, ht, hp⟩ := h.tape
  exact lst_lt ht
/-- another list is written -/
theorem Tp.other {S : Sto} {t s k : Nat} {o : O} (h : Tp S t s) (h1 : k ≠ t) (h2 : k ≠ s) (c : D.clBs S.length o.items = true) : Tp (S.set k o) t s := by
  obtain ⟨⟨p, n, g, ht, hp⟩, ⟨ns, hs⟩, ne, cl⟩ := h
  exact ⟨⟨p, n, g, by rw [List.getElem?_set_ne h1]; exact ht, hp⟩, ⟨ns, by rw [List.getElem?_set_ne h2]; exact hs⟩, ne, cl.set c⟩
set_option maxHeartbeats 1000000 in
theorem tape_ex (ns : List Int) : ∃ q, F__law_tape [.ref 0] [.rol (ns.map D.int)] = some (.ok (.ref 2), [.rol (ns.map D.int), .lst (ns.map D.int), .lst q]) ∧ Tp [.rol (ns.map D.int), .lst (ns.map D.int), .lst q] 2 1 := by
  suffices h : ∃ g : Int, r__law_tape [.ref 0] [.rol (ns.map D.int)] = some (.ok (.ref 2), [.rol (ns.map D.int), .lst (ns.map D.int), .lst [.ref 1, .int 0, .int 0, .int g]]) by
    obtain ⟨g, h⟩ := h
    refine ⟨_, gc_keep h rfl, ⟨0, 0, g, rfl, by omega⟩, ⟨ns, rfl⟩, by decide, fun o ho => ?_⟩
    simp only [List.mem_cons, List.not_mem_nil, or_false] at ho
    rcases ho with rfl | rfl | rfl <;> simp [O.clB, O.items]
  obtain ⟨env', S', h1, x, y, h2, h3⟩ := forD_all (ok := fun S => seqOf (.ref 0) S = some (ns.map D.int)) (t := .nm 2) (fb := sAsg (.nm 1) (dOp gMod (dCB cInt (dCons (dOp gAdd (dOp gMul (dVar 1) (dC (.int 31))) (dCB cAbs (dCons (dCB cInt (dCons (dVar 2) dNil)) dNil))) dNil)) (dC (.int 2147483647))))
    (fun _ env S => ∃ (x : Int) (y : Option D), env = [some (.ref 0), some (.int x), y] ∧ S = [.rol (ns.map D.int)]) (ns.map D.int) [some (.ref 0), some (.int 7), none] [.rol (ns.map D.int)] (by rintro j env S - ⟨x, y, rfl, rfl⟩; rfl) ⟨7, none, rfl, rfl⟩ (by
      rintro j x env S hx ⟨u, y, rfl, rfl⟩
      obtain ⟨i, -, rfl⟩ : ∃ i, i ∈ ns ∧ D.int i = x := by simpa using List.mem_of_getElem? hx
      exact ⟨_, _, _, rfl, by simp; exact ⟨rfl, rfl⟩, _, _, rfl, rfl⟩)
  subst h2 h3
  refine ⟨x, ?_⟩
  have q0 : seqOf (.ref 0) [O.rol (ns.map D.int)] = some (ns.map D.int) := rfl
  simp [m__law_tape, q0, h1, sizeLine_eq]
end LW
namespace LW
open PySem PySem.Spec PyProof.Rows L2 RT RZ DL
/-- only the tape was written -/
def Wr (t : Nat) (S B : Sto) : Prop := ∃ q, B = S.set t (.lst q)
theorem Wr.len {t : Nat} {S B : Sto} (h : Wr t S B) : B.length = S.length := by
  obtain ⟨q, rfl⟩ := h
  exact List.length_set ..
theorem Wr.trans {t : Nat} {S B C : Sto} (h : Wr t S B) (g : Wr t B C) : Wr t S C := by
  obtain ⟨q, rfl⟩ := h
  obtain ⟨p, rfl⟩ := g
  exact ⟨p, List.set_set ..⟩
theorem Tp.wr {t s : Nat} {S : Sto} (h : Tp S t s) : Wr t S S := by
  obtain ⟨p, n, g, ht, -⟩ := h.tape
  refine ⟨[.ref s, .int p, .int n, .int g], List.ext_getElem? fun i => ?_⟩
  by_cases e : i = t
  · subst e
    rw [List.getElem?_set_self h.lt, ht]
  · rw [List.getElem?_set_ne (Ne.symm e)]
theorem Tp.srclt {t s : Nat} {S : Sto} (h : Tp S t s) : s < S.length := by
  obtain ⟨ns, hs⟩ := h.src
  exact lst_lt hs
theorem Wr.get {t n : Nat} {S B : Sto} (h : Wr t S B) (hn : n ≠ t) : B[n]? = S[n]? := by
  obtain ⟨q, rfl⟩ := h
  exact List.getElem?_set_ne (Ne.symm hn)
theorem draw_app {B T : Sto} {t s : Nat} {m : Int} (h : Tp B t s) (c : ClS (B ++ T)) (hm : m.natAbs < 2 ^ 62) : ∃ v B', F__law_draw [.ref t, .int m] (B ++ T) = some (.ok (.int v), B' ++ T) ∧ 0 ≤ v ∧ v < max m 1 ∧ Tp B' t s ∧ Wr t B B' ∧ ClS (B' ++ T) := by
  obtain ⟨v, q, h1, h2, h3, h4⟩ := draw_ex (h.app c) hm
  have e : (B ++ T).set t (.lst q) = B.set t (.lst q) ++ T := List.set_append_left _ _ h.lt
  rw [e] at h1 h4
  have lt2 : t < (B.set t (.lst q)).length := by rw [List.length_set]; exact h.lt
  refine ⟨v, _, h1, h2, h3, ?_, ⟨q, rfl⟩, h4.cl⟩
  obtain ⟨p, n, g, ht, hp⟩ := h4.tape
  rw [List.getElem?_append_left lt2] at ht
  have ht2 := ht
  rw [List.getElem?_set_self h.lt] at ht2
  cases ht2
  obtain ⟨ns, hs⟩ := h.src
  refine ⟨⟨p, n, g, ht, hp⟩, ⟨ns, by rw [List.getElem?_set_ne h.ne]; exact hs⟩, h.ne, h.cl.set (by simp [O.items, h.srclt])⟩
theorem draw_wr {S : Sto} {t s : Nat} {m : Int} (h : Tp S t s) (hm : m.natAbs < 2 ^ 62) : ∃ v B, F__law_draw [.ref t, .int m] S = some (.ok (.int v), B) ∧ 0 ≤ v ∧ v < max m 1 ∧ Tp B t s ∧ Wr t S B := by
  obtain ⟨v, B, h1, h2, h3, h4, h5, -⟩ := draw_app (T := []) h (by simpa using h.cl) hm
  simp only [List.append_nil] at h1
  exact ⟨v, B, h1, h2, h3, h4, h5⟩
theorem gc_wr {m : Mir} {ds : List D} {S B T : Sto} {r : R D} {t : Nat} (w : Wr t S B) (hc : ClS B) (h : m ds S = some (r, B ++ T)) (hr : r.clB S.length = true) : gc m ds S = some (r, B) := by
  obtain ⟨q, rfl⟩ := w
  exact gc_set hc h hr
end LW
namespace LW
open PySem PySem.Spec PyProof.Rows L2 RT RZ DL
/-! ### polynomials, plainly -/
def trim : List Int → List Int
  | [] => []
  | x :: xs => if trim xs = [] ∧ x = 0 then [] else x :: trim xs
theorem trim_len : ∀ l : List Int, (trim l).length ≤ l.length
  | [] => Nat.le_refl _
  | x :: xs => by
    unfold trim
    split
    · simp
    · simpa using trim_len xs
theorem trim_zero : ∀ l : List Int, trim (l ++ [0]) = trim l
  | [] => by simp [trim]
  | x :: xs => by
    show trim (x :: (xs ++ [0])) = _
    unfold trim
    rw [trim_zero xs]
theorem trim_last {y : Int} (h : y ≠ 0) : ∀ l : List Int, trim (l ++ [y]) = l ++ [y]
  | [] => by simp [trim, h]
  | x :: xs => by
    show trim (x :: (xs ++ [y])) = _
    unfold trim
    rw [trim_last h xs, if_neg (by simp)]
    rfl
theorem trim_mem {x : Int} : ∀ {l : List Int}, x ∈ trim l → x ∈ l
  | [], h => h
  | y :: l, h => by
    unfold trim at h
    split at h
    · cases h
    · rcases List.mem_cons.mp h with rfl | h
      · exact List.mem_cons_self
      · exact List.mem_cons_of_mem _ (trim_mem h)
theorem last_split {l : List Int} (h : l ≠ []) : ∃ a x, l = a ++ [x] := ⟨l.dropLast, l.getLast h, (List.dropLast_concat_getLast h).symm⟩
theorem atI_neg1 (a : List D) (x : D) : atI (a ++ [x]) (-1) = some x := by
  unfold atI ixN
  rw [if_neg (by decide), if_pos (by rw [List.length_append]; simp; omega)]
  have e : (-1 + ((a ++ [x]).length : Int)).toNat = a.length := by rw [List.length_append]; simp; omega
  show (a ++ [x])[(-1 + ((a ++ [x]).length : Int)).toNat]? = some x
  rw [e]
  simp
set_option maxHeartbeats 1000000 in
theorem trimmed_eq {S : Sto} {d : D} {ls : List Int} (hc : ClS S) (hd : seqOf d S = some (ls.map D.int)) (hl : ls.length ≤ 1000) : F_trimmed [d] S = some (.ok (.tup ((trim ls).map D.int)), S) := by
  have key := whileD_rule (fc := (dAnd (dTru (dVar 1)) (dBl (dOp gEq (dOp gIx (dVar 1) (dUn gNeg (dC (.int 1)))) (dC (.int 0)))))) (fb := (sExpr (dM "list" mPop (dVar 1) dNil)))
    (fun env S' => ∃ ks : List Int, env = [some d, some (.ref S.length)] ∧ S' = S ++ [.lst (ks.map D.int)] ∧ trim ks = trim ls ∧ ks.length ≤ 1000)
    (fun _ S' => match S'[S.length]? with | some (.lst l) => l.length | _ => 0)
    (fun env S' => env = [some d, some (.ref S.length)] ∧ S' = S ++ [.lst ((trim ls).map D.int)])
    (by
      rintro env S' ⟨ks, rfl, rfl, h1, h2⟩
      by_cases hk : ks = []
      · subst hk
        refine .inl ⟨S ++ [.lst []], by simp, rfl, by rw [← h1]; rfl⟩
      · obtain ⟨a, x, rfl⟩ := last_split hk
        have hat : atI (List.map D.int a ++ [D.int x]) (-1) = some (.int x) := atI_neg1 _ _
        by_cases hx : x = 0
        · subst hx
          refine .inr ⟨S ++ [.lst ((a ++ [0]).map D.int)], [some d, some (.ref S.length)], S ++ [.lst (a.map D.int)], ?_, .inl ?_, ⟨a, rfl, rfl, by rw [← h1, trim_zero], by rw [List.length_append] at h2; omega⟩, ?_⟩
          · simp [hat]
          · simp
          · simp
        · refine .inl ⟨S ++ [.lst ((a ++ [x]).map D.int)], ?_, rfl, by rw [← h1, trim_last hx]⟩
          simp [hat, hx])
    fuel [some d, some (.ref S.length)] (S ++ [.lst (ls.map D.int)]) ⟨ls, rfl, rfl, rfl, hl⟩ (by have := fuel_ge; simp; omega)
  obtain ⟨env', S', h1, rfl, rfl⟩ := key
  refine gc_pure (T := [.lst ((trim ls).map D.int)]) hc ?_ (by simp)
  simp [m_trimmed, hd, h1]
set_option maxHeartbeats 1000000 in
theorem law_trimmed_eq {S : Sto} {d : D} {ls : List Int} (hc : ClS S) (hd : seqOf d S = some (ls.map D.int)) (hl : ls.length ≤ 1000) (hk : d = .tup (ls.map D.int) ∨ ∃ n, d = .ref n) : F__law_trimmed [d] S = some (.ok (.tup ((trim ls).map D.int)), S) := by
  have key := forD_all (ok := fun _ => True) (t := .nm 2) (fb := (sIf (dBl (dOp gNe (dOp gIx (dVar 0) (dVar 2)) (dC (.int 0)))) (sAsg (.nm 1) (dOp gAdd (dVar 2) (dC (.int 1)))) sNext))
    (fun j env S' => ∃ (q : Nat) (y : Option D), env = [some d, some (.int q), y] ∧ S' = S ∧ trim (ls.take j) = ls.take q ∧ q ≤ j) (rangeL 0 ls.length) [some d, some (.int 0), none] S (fun _ _ _ _ _ => trivial) ⟨0, none, rfl, rfl, rfl, Nat.le_refl _⟩ (by
      rintro j x env S' hx ⟨q, y, rfl, rfl, h1, h2⟩
      obtain ⟨hj, rfl⟩ := rangeL_get hx
      have hat : atI (ls.map D.int) (j : Int) = some (.int ls[j]) := atI_of rfl (by simp [hj])
      have hix : gIx d (.int (j : Int)) S' = some (.int ls[j], S') := by
        rcases hk with rfl | ⟨n, rfl⟩
        · simp [hat]
        · simp [hd, hat]
      have tk : ls.take (j + 1) = ls.take j ++ [ls[j]] := by rw [List.take_add_one, List.getElem?_eq_getElem hj]; rfl
      refine ⟨[some d, some (.int q), some (.int (0 + (j : Int)))], ?_⟩
      rw [Int.zero_add]
      by_cases hz : ls[j] = 0
      · refine ⟨[some d, some (.int q), some (.int (j : Int))], S', rfl, ?_, q, _, rfl, rfl, by rw [tk, hz, trim_zero, h1], by omega⟩
        simp [hix, hz]
      · refine ⟨[some d, some (.int ((j + 1 : Nat) : Int)), some (.int (j : Int))], S', rfl, ?_, j + 1, _, rfl, rfl, by rw [tk, trim_last hz], Nat.le_refl _⟩
        simp [hix, hz])
  obtain ⟨env', S', h1, q, y, rfl, rfl, h2, h3⟩ := key
  rw [rangeL_len, List.take_length] at h2
  have hlen : cLen [d] S' = some (.int (ls.length : Nat), S') := by
    rcases hk with rfl | ⟨n, rfl⟩
    · simp
    · simp [hd]
  have hb : RgB (ls.length : Int) := .of (by omega)
  have e1 : (ls.map D.int).take q = (trim ls).map D.int := by rw [h2, List.map_take]
  rcases hk with rfl | ⟨n, rfl⟩
  · refine gc_pure (T := []) hc ?_ (by simp)
    simp [m__law_trimmed, hb, h1, e1]
  · refine gc_pure (T := [.lst ((trim ls).map D.int)]) hc ?_ (by simp)
    simp [m__law_trimmed, hd, hb, h1, e1]
end LW
namespace LW
open PySem PySem.Spec PyProof.Rows L2 RT RZ DL
/-! bits -/
def PB (b : Nat) (l : List Int) : Prop := ∀ x ∈ l, x.natAbs < 2 ^ b
theorem PB.trim {b : Nat} {l : List Int} (h : PB b l) : PB b (trim l) := fun x hx => h x (trim_mem hx)
theorem PB.get {b : Nat} {l : List Int} (h : PB b l) (j : Nat) : (l.getD j 0).natAbs < 2 ^ b := by
  rw [List.getD_eq_getElem?_getD]
  cases e : l[j]? with
  | none => simpa using Nat.two_pow_pos b
  | some x => exact h x (List.mem_of_getElem? e)
theorem PB.mono {b c : Nat} {l : List Int} (h : PB b l) (hc : b ≤ c) : PB c l := fun x hx => Nat.lt_of_lt_of_le (h x hx) (Nat.pow_le_pow_right (by omega) hc)
theorem pow_half {b c : Nat} (h : c ≤ b) : 2 ^ b + 2 ^ c ≤ 2 ^ (b + 1) := by
  have := Nat.pow_le_pow_right (n := 2) (by omega) h
  rw [Nat.pow_succ]
  omega
theorem intBits_lt {x : Int} {a : Nat} (h : x.natAbs < 2 ^ a) : Builtin.Int.intBits x ≤ a + 1 := by
  unfold Builtin.Int.intBits
  split
  · omega
  · rename_i h0
    have h1 : x.natAbs ≠ 0 := by
      intro e
      exact h0 (by simpa using e)
    have := (Nat.log2_lt h1).mpr h
    omega
theorem big_mul {i j : Int} {a b : Nat} (ha : i.natAbs < 2 ^ a) (hb : j.natAbs < 2 ^ b) (h : a + b ≤ 134000000) : IntMulOk i j := mulOk_of_bits (m := a + 1) (n := b + 1) (intBits_lt ha) (intBits_lt hb) (by omega)
/-! the value -/
def valN (l : List Int) (n : Int) : Nat → Int
  | 0 => 0
  | j + 1 => valN l n j * n + l.getD (l.length - 1 - j) 0
theorem valN_lt {l : List Int} {n : Int} {b c : Nat} (hb : PB b l) (hn : n.natAbs < 2 ^ c) : ∀ j, (valN l n j).natAbs < 2 ^ (b + (c + 1) * j)
  | 0 => by simpa [valN] using Nat.two_pow_pos b
  | j + 1 => by
    have h1 := valN_lt hb hn j
    have h2 := wide_lt h1 hn
    have h3 := hb.get (l.length - 1 - j)
    unfold valN
    have h4 := pow_half (b := b + (c + 1) * j + c) (c := b) (by omega)
    have e : b + (c + 1) * (j + 1) = b + (c + 1) * j + c + 1 := by rw [Nat.mul_add]; omega
    rw [e]
    omega
theorem getD_map {l : List Int} {k : Nat} (h : k < l.length) : (l.map D.int)[k]? = some (.int (l.getD k 0)) := by simp [h]
set_option maxHeartbeats 1000000 in
theorem value_at_eq {S : Sto} {ls : List Int} {n : Int} {b c : Nat} (hc : ClS S) (hb : PB b ls) (hn : n.natAbs < 2 ^ c) (h0 : 0 < b) (hc0 : 0 < c) (h9 : ls.length ≤ 1000) (hl : b + (c + 1) * ls.length + c ≤ 100000000) : F_value_at [.tup (ls.map D.int), .int n] S = some (.ok (.int (valN ls n ls.length)), S) := by
  obtain ⟨env', S', h1, v, rfl, rfl⟩ := forD_all (ok := fun _ => True) (t := .nm 3) (fb := (sAsg (.nm 2) (dOp gAdd (dOp gMul (dVar 2) (dVar 1)) (dVar 3))))
    (fun j env S' => ∃ v, env = [some (.tup (ls.map D.int)), some (.int n), some (.int (valN ls n j)), v] ∧ S' = S) (ls.map D.int).reverse [some (.tup (ls.map D.int)), some (.int n), some (.int 0), none] S (fun _ _ _ _ _ => trivial) ⟨_, rfl, rfl⟩ (by
      rintro j x env S' hx ⟨v, rfl, rfl⟩
      have hj : j < ls.length := by simpa using (List.getElem?_eq_some_iff.mp hx).1
      rw [List.getElem?_reverse (by simpa using hj), List.length_map, getD_map (by omega)] at hx
      cases hx
      refine ⟨_, _, _, rfl, ?_, some (.int (ls.getD (ls.length - 1 - j) 0)), rfl, rfl⟩
      have hm : IntMulOk (valN ls n j) n := big_mul (valN_lt hb hn j) hn (by have := Nat.mul_le_mul_left (c + 1) (Nat.le_of_lt hj); omega)
      simp [E_gMulI _ _ hm, valN])
  rw [List.length_reverse, List.length_map] at h1
  refine gc_pure (T := []) hc ?_ (by simp)
  simp [m_value_at, h1]
set_option maxHeartbeats 1000000 in
theorem law_value_eq {S : Sto} {ls : List Int} {n : Int} {b c : Nat} (hc : ClS S) (hb : PB b ls) (hn : n.natAbs < 2 ^ c) (h0 : 0 < b) (hc0 : 0 < c) (h9 : ls.length ≤ 1000) (hl : b + (c + 1) * ls.length + c ≤ 100000000) : F__law_value [.tup (ls.map D.int), .int n] S = some (.ok (.int (valN ls n ls.length)), S) := by
  obtain ⟨env', S', h1, v, rfl, rfl⟩ := forD_all (ok := fun _ => True) (t := .nm 3) (fb := (sAsg (.nm 2) (dOp gAdd (dOp gMul (dVar 2) (dVar 1)) (dOp gIx (dVar 0) (dOp gSub (dOp gSub (dCB cLen (dCons (dVar 0) dNil)) (dC (.int 1))) (dVar 3))))))
    (fun j env S' => ∃ v, env = [some (.tup (ls.map D.int)), some (.int n), some (.int (valN ls n j)), v] ∧ S' = S) (rangeL 0 ls.length) [some (.tup (ls.map D.int)), some (.int n), some (.int 0), none] S (fun _ _ _ _ _ => trivial) ⟨_, rfl, rfl⟩ (by
      rintro j x env S' hx ⟨v, rfl, rfl⟩
      obtain ⟨hj, rfl⟩ := rangeL_get hx
      refine ⟨_, _, _, rfl, ?_, some (.int (0 + (j : Int))), rfl, rfl⟩
      have hm : IntMulOk (valN ls n j) n := big_mul (valN_lt hb hn j) hn (by have := Nat.mul_le_mul_left (c + 1) (Nat.le_of_lt hj); omega)
      have hat : atI (ls.map D.int) ((ls.length : Int) - 1 - j) = some (.int (ls.getD (ls.length - 1 - j) 0)) := atI_of (k := ls.length - 1 - j) (by omega) (getD_map (by omega))
      simp [E_gMulI _ _ hm, valN, hat])
  rw [rangeL_len] at h1
  have hg : RgB (ls.length : Int) := .of (by omega)
  refine gc_pure (T := []) hc ?_ (by simp)
  simp [m__law_value, h1, hg]
/-! the product -/
def mulRow (r : List Int) (i : Nat) (x : Int) (b : List Int) : Nat → List Int
  | 0 => r
  | j + 1 => (mulRow r i x b j).set (i + j) ((mulRow r i x b j).getD (i + j) 0 + x * b.getD j 0)
def mulRaw (a b : List Int) : Nat → List Int
  | 0 => List.replicate (a.length + b.length) 0
  | i + 1 => mulRow (mulRaw a b i) i (a.getD i 0) b b.length
def mulP (a b : List Int) : List Int := trim (mulRaw a b a.length)
theorem mulRow_len {r : List Int} {i : Nat} {x : Int} {b : List Int} : ∀ j, (mulRow r i x b j).length = r.length
  | 0 => rfl
  | j + 1 => by
    unfold mulRow
    rw [List.length_set, mulRow_len j]
theorem mulRaw_len {a b : List Int} : ∀ i, (mulRaw a b i).length = a.length + b.length
  | 0 => by simp [mulRaw]
  | i + 1 => by
    unfold mulRaw
    rw [mulRow_len, mulRaw_len i]
theorem mulP_len {a b : List Int} : (mulP a b).length ≤ a.length + b.length := Nat.le_trans (trim_len _) (Nat.le_of_eq (mulRaw_len _))
theorem mulRow_le {r : List Int} {i : Nat} {x : Int} {b : List Int} {M V : Nat} (hr : ∀ y ∈ r, y.natAbs ≤ M) (hv : ∀ j, (x * b.getD j 0).natAbs ≤ V) : ∀ j, ∀ y ∈ mulRow r i x b j, y.natAbs ≤ M + j * V
  | 0 => by simpa [mulRow] using hr
  | j + 1 => fun y hy => by
    have ih := mulRow_le (i := i) hr hv j
    unfold mulRow at hy
    have e : M + (j + 1) * V = M + j * V + V := by rw [Nat.add_mul]; omega
    rcases List.mem_or_eq_of_mem_set hy with h | rfl
    · have := ih y h
      omega
    · have h1 := hv j
      have h2 : ((mulRow r i x b j).getD (i + j) 0).natAbs ≤ M + j * V := by
        rw [List.getD_eq_getElem?_getD]
        cases e : (mulRow r i x b j)[i + j]? with
        | none => simp
        | some z => exact ih z (List.mem_of_getElem? e)
      omega
theorem mulRaw_le {a b : List Int} {V : Nat} (hv : ∀ i j, (a.getD i 0 * b.getD j 0).natAbs ≤ V) : ∀ i, ∀ y ∈ mulRaw a b i, y.natAbs ≤ i * (b.length * V)
  | 0 => by
    intro y hy
    rw [List.eq_of_mem_replicate hy]
    simp
  | i + 1 => fun y hy => by
    have := mulRow_le (i := i) (mulRaw_le hv i) (hv i) b.length y hy
    rw [Nat.add_mul]
    omega
theorem mulP_bits {a b : List Int} {p q : Nat} (ha : PB p a) (hb : PB q b) (h1 : a.length ≤ 32) (h2 : b.length ≤ 32) : PB (p + q + 11) (mulP a b) := by
  intro x hx
  have h := mulRaw_le (V := 2 ^ (p + q)) (fun i j => Nat.le_of_lt (wide_lt (ha.get i) (hb.get j))) a.length x (trim_mem hx)
  have h3 : b.length * 2 ^ (p + q) ≤ 32 * 2 ^ (p + q) := Nat.mul_le_mul_right _ h2
  have h4 : a.length * (b.length * 2 ^ (p + q)) ≤ 32 * (32 * 2 ^ (p + q)) := Nat.mul_le_mul h1 h3
  have h5 : 0 < 2 ^ (p + q) := Nat.two_pow_pos _
  have e : 2 ^ (p + q + 11) = 2048 * 2 ^ (p + q) := by rw [Nat.pow_add, Nat.mul_comm]
  rw [e]
  omega
end LW
namespace LW
open PySem PySem.Spec PyProof.Rows L2 RT RZ DL
theorem enumD_get {ls : List Int} {j : Nat} {x : D} (h : (enumD (ls.map D.int))[j]? = some x) : j < ls.length ∧ x = .tup [.int j, .int (ls.getD j 0)] := by
  unfold enumD at h
  rw [List.getElem?_map, List.getElem?_zipIdx] at h
  by_cases hj : j < ls.length
  · rw [getD_map hj] at h
    simp at h
    exact ⟨hj, by simp [← h]⟩
  · rw [List.getElem?_eq_none (by simpa using hj)] at h
    cases h
theorem enumD_len (ls : List Int) : (enumD (ls.map D.int)).length = ls.length := by simp [enumD]
theorem at_add {r : List Int} {i j k : Nat} (h : i + j < r.length) : atI (r.map D.int) ((i : Int) + j) = some (.int (r.getD (i + j) 0)) := atI_of (k := i + j) (by omega) (getD_map h)
theorem at_nat {r : List Int} {i : Nat} (h : i < r.length) : atI (r.map D.int) (i : Int) = some (.int (r.getD i 0)) := atI_of (k := i) rfl (getD_map h)
theorem set_map (r : List Int) (k : Nat) (v : Int) : (r.map D.int).set k (.int v) = (r.set k v).map D.int := by rw [List.map_set]
theorem rep_map (n : Nat) : List.replicate n (D.int 0) = (List.replicate n 0).map D.int := by simp
theorem rep_flat (n : Nat) : (List.replicate n [D.int 0]).flatten = (List.replicate n 0).map D.int := by
  induction n with
  | zero => rfl
  | succ n ih => rw [List.replicate_succ, List.flatten_cons, ih]; simp [List.replicate_succ]
set_option maxHeartbeats 1000000 in
theorem row_eq {B : Sto} {a b r : List Int} {i p q : Nat} {x : Int} (hx : x.natAbs < 2 ^ p) (hb : PB q b) (hp : 0 < p) (hq : 0 < q) (hpq : p + q ≤ 1000000) (hr : i + b.length ≤ r.length) (v5 v6 : Option D) :
    ∃ w5 w6, forD (fun S => True) (.tp [(.nm 5), (.nm 6)]) (sAugS gIxL gIAdd gSetL (dVar 2) (dOp gAdd (dVar 3) (dVar 5)) (dOp gMul (dVar 4) (dVar 6))) (enumD (b.map D.int)) [some (.tup (a.map D.int)), some (.tup (b.map D.int)), some (.ref B.length), some (.int i), some (.int x), v5, v6] (B ++ [.lst (r.map D.int)]) = some (.nx, [some (.tup (a.map D.int)), some (.tup (b.map D.int)), some (.ref B.length), some (.int i), some (.int x), w5, w6], B ++ [.lst ((mulRow r i x b b.length).map D.int)]) := by
  obtain ⟨env', S', h1, w5, w6, rfl, rfl⟩ := forD_all (ok := fun _ => True) (t := .tp [(.nm 5), (.nm 6)]) (fb := (sAugS gIxL gIAdd gSetL (dVar 2) (dOp gAdd (dVar 3) (dVar 5)) (dOp gMul (dVar 4) (dVar 6))))
    (fun j env S' => ∃ w5 w6, env = [some (.tup (a.map D.int)), some (.tup (b.map D.int)), some (.ref B.length), some (.int i), some (.int x), w5, w6] ∧ S' = B ++ [.lst ((mulRow r i x b j).map D.int)]) (enumD (b.map D.int)) [some (.tup (a.map D.int)), some (.tup (b.map D.int)), some (.ref B.length), some (.int i), some (.int x), v5, v6] (B ++ [.lst (r.map D.int)]) (fun _ _ _ _ _ => trivial) ⟨_, _, rfl, rfl⟩ (by
      rintro j y env S' hy ⟨w5, w6, rfl, rfl⟩
      obtain ⟨hj, rfl⟩ := enumD_get hy
      refine ⟨_, _, _, rfl, ?_, some (.int j), some (.int (b.getD j 0)), rfl, rfl⟩
      have hm : CMulW x (b.getD j 0) := wide_mul hx (hb.get j) hp hq hpq
      have hl : i + j < (mulRow r i x b j).length := by rw [mulRow_len]; omega
      have hat := at_add (k := 0) hl
      have hix : ixN (mulRow r i x b j).length ((i : Int) + j) = some (i + j) := ixN_of (by omega) hl
      have h0 : 0 ≤ (i : Int) + j := by omega
      generalize hR : mulRow r i x b j = R at *
      generalize hz : b.getD j 0 = z at *
      simp only [Nat.add_eq, mulRow, hR, hz]
      simp [E_gMulW _ _ hm, hat, hix, h0])
  rw [enumD_len] at h1
  exact ⟨w5, w6, h1⟩
set_option maxHeartbeats 1000000 in
theorem multiplied_eq {S : Sto} {a b : List Int} {p q : Nat} (hc : ClS S) (ha : PB p a) (hb : PB q b) (hp : 0 < p) (hq : 0 < q) (hpq : p + q ≤ 1000000) (hla : a.length ≤ 100) (hlb : b.length ≤ 100) : F_multiplied [.tup (a.map D.int), .tup (b.map D.int)] S = some (.ok (.tup ((mulP a b).map D.int)), S) := by
  obtain ⟨B, hB⟩ : ∃ B, B = S ++ [.lst [.int 0]] := ⟨_, rfl⟩
  have cB : ClS (B ++ [.lst ((mulRaw a b a.length).map D.int)]) := by
    subst hB
    exact (hc.app (by simp [O.items])).app (by simp [O.items])
  have hm : gMul (.ref S.length) (.int ((a.length : Int) + b.length)) (S ++ [.lst [.int 0]]) = some (.ref B.length, B ++ [.lst ((mulRaw a b 0).map D.int)]) := by
    unfold gMul
    simp only [get_last]
    have e : ((a.length : Int) + b.length).toNat = a.length + b.length := by omega
    rw [if_pos ⟨by omega, by omega, by rw [e]; have := line_big; simp; omega⟩, e, rep_flat, ← hB]
    rfl
  obtain ⟨env', S', h1, w3, w4, w5, w6, rfl, rfl⟩ := forD_all (ok := fun _ => True) (t := .tp [(.nm 3), (.nm 4)]) (fb := (sFor (wEnumA (dCons (dVar 1) dNil)) (.tp [(.nm 5), (.nm 6)]) (sAugS gIxL gIAdd gSetL (dVar 2) (dOp gAdd (dVar 3) (dVar 5)) (dOp gMul (dVar 4) (dVar 6)))))
    (fun j env S' => ∃ w3 w4 w5 w6, env = [some (.tup (a.map D.int)), some (.tup (b.map D.int)), some (.ref B.length), w3, w4, w5, w6] ∧ S' = B ++ [.lst ((mulRaw a b j).map D.int)]) (enumD (a.map D.int)) [some (.tup (a.map D.int)), some (.tup (b.map D.int)), some (.ref B.length), none, none, none, none] (B ++ [.lst ((mulRaw a b 0).map D.int)]) (fun _ _ _ _ _ => trivial) ⟨_, _, _, _, rfl, rfl⟩ (by
      rintro j y env S' hy ⟨w3, w4, w5, w6, rfl, rfl⟩
      obtain ⟨hj, rfl⟩ := enumD_get hy
      obtain ⟨u5, u6, h⟩ := row_eq (B := B) (a := a) (b := b) (r := mulRaw a b j) (i := j) (ha.get j) hb hp hq hpq (by rw [mulRaw_len]; omega) w5 w6
      refine ⟨_, _, _, rfl, ?_, some (.int j), some (.int (a.getD j 0)), u5, u6, rfl, rfl⟩
      simp only [Nat.add_eq, mulRaw]
      simp
      simpa using h)
  rw [enumD_len] at h1
  have ht := trimmed_eq (d := .ref B.length) cB (seq_last B _) (by rw [mulRaw_len]; omega)
  refine gc_pure (T := [.lst [.int 0], .lst ((mulRaw a b a.length).map D.int)]) hc ?_ (by simp)
  have hS : S ++ [.lst [.int 0], .lst ((mulRaw a b a.length).map D.int)] = B ++ [.lst ((mulRaw a b a.length).map D.int)] := by rw [hB]; simp
  rw [hS]
  have l1 : 1 ≤ sizeLine := by decide
  simp [m_multiplied, l1, hm, h1, ht, mulP]
set_option maxHeartbeats 1000000 in
theorem lrow_eq {B : Sto} {a b r : List Int} {i p q : Nat} (ha : PB p a) (hb : PB q b) (hp : 0 < p) (hq : 0 < q) (hpq : p + q ≤ 1000000) (hr : i + b.length ≤ r.length) (hi : i < a.length) (v4 : Option D) :
    ∃ w4, forD (fun S => True) (.nm 4) (sSub gSetL (dOp gAdd (dOp gIx (dVar 2) (dOp gAdd (dVar 3) (dVar 4))) (dOp gMul (dOp gIx (dVar 0) (dVar 3)) (dOp gIx (dVar 1) (dVar 4)))) (dVar 2) (dOp gAdd (dVar 3) (dVar 4))) (rangeL 0 b.length) [some (.tup (a.map D.int)), some (.tup (b.map D.int)), some (.ref B.length), some (.int i), v4] (B ++ [.lst (r.map D.int)]) = some (.nx, [some (.tup (a.map D.int)), some (.tup (b.map D.int)), some (.ref B.length), some (.int i), w4], B ++ [.lst ((mulRow r i (a.getD i 0) b b.length).map D.int)]) := by
  obtain ⟨env', S', h1, w4, rfl, rfl⟩ := forD_all (ok := fun _ => True) (t := .nm 4) (fb := (sSub gSetL (dOp gAdd (dOp gIx (dVar 2) (dOp gAdd (dVar 3) (dVar 4))) (dOp gMul (dOp gIx (dVar 0) (dVar 3)) (dOp gIx (dVar 1) (dVar 4)))) (dVar 2) (dOp gAdd (dVar 3) (dVar 4))))
    (fun j env S' => ∃ w4, env = [some (.tup (a.map D.int)), some (.tup (b.map D.int)), some (.ref B.length), some (.int i), w4] ∧ S' = B ++ [.lst ((mulRow r i (a.getD i 0) b j).map D.int)]) (rangeL 0 b.length) [some (.tup (a.map D.int)), some (.tup (b.map D.int)), some (.ref B.length), some (.int i), v4] (B ++ [.lst (r.map D.int)]) (fun _ _ _ _ _ => trivial) ⟨_, rfl, rfl⟩ (by
      rintro j y env S' hy ⟨w4, rfl, rfl⟩
      obtain ⟨hj, rfl⟩ := rangeL_get hy
      rw [Int.zero_add]
      refine ⟨_, _, _, rfl, ?_, some (.int j), rfl, rfl⟩
      have hm : CMulW (a.getD i 0) (b.getD j 0) := wide_mul (ha.get i) (hb.get j) hp hq hpq
      have hl : i + j < (mulRow r i (a.getD i 0) b j).length := by rw [mulRow_len]; omega
      have hat := at_add (k := 0) hl
      have hix : ixN (mulRow r i (a.getD i 0) b j).length ((i : Int) + j) = some (i + j) := ixN_of (by omega) hl
      have h2 := at_nat hi
      have h3 := at_nat hj
      generalize hR : mulRow r i (a.getD i 0) b j = R at *
      generalize hx : a.getD i 0 = x at *
      generalize hz : b.getD j 0 = z at *
      simp only [Nat.add_eq, mulRow, hR, hz]
      simp [E_gMulW _ _ hm, hat, hix, h2, h3]
      )
  rw [rangeL_len] at h1
  exact ⟨w4, h1⟩
set_option maxHeartbeats 1000000 in
theorem law_times_eq {S : Sto} {a b : List Int} {p q : Nat} (hc : ClS S) (ha : PB p a) (hb : PB q b) (hp : 0 < p) (hq : 0 < q) (hpq : p + q ≤ 1000000) (hla : a.length ≤ 100) (hlb : b.length ≤ 100) : F__law_times [.tup (a.map D.int), .tup (b.map D.int)] S = some (.ok (.tup ((mulP a b).map D.int)), S) := by
  have cB : ClS (S ++ [.lst ((mulRaw a b a.length).map D.int)]) := hc.app (by simp [O.items])
  have hlc : lcD (fun _ => True) (.nm 3) dTrue (dC (.int 0)) [some (.tup (a.map D.int)), some (.tup (b.map D.int)), none, none, none] S.length (rangeL 0 (a.length + b.length)) (S ++ [.lst []]) = some (S ++ [.lst ((mulRaw a b 0).map D.int)]) := by
    rw [lcD_pure (t := .nm 3) (rangeL 0 (a.length + b.length)) (fun _ => true) (fun _ => .int 0) (fun _ => trivial) (fun x acc _ => ⟨_, rfl, rfl, fun _ => rfl⟩) (by rw [rangeL_len]; have := line_big; omega)]
    rw [show (rangeL 0 (a.length + b.length)).filter (fun _ => true) = rangeL 0 (a.length + b.length) from List.filter_eq_self.mpr fun _ _ => rfl, List.map_const', rangeL_len, rep_map]
    rfl
  obtain ⟨env', S', h1, w3, w4, rfl, rfl⟩ := forD_all (ok := fun _ => True) (t := .nm 3) (fb := (sFor (wRange (dCons (dCB cLen (dCons (dVar 1) dNil)) dNil)) (.nm 4) (sSub gSetL (dOp gAdd (dOp gIx (dVar 2) (dOp gAdd (dVar 3) (dVar 4))) (dOp gMul (dOp gIx (dVar 0) (dVar 3)) (dOp gIx (dVar 1) (dVar 4)))) (dVar 2) (dOp gAdd (dVar 3) (dVar 4)))))
    (fun j env S' => ∃ w3 w4, env = [some (.tup (a.map D.int)), some (.tup (b.map D.int)), some (.ref S.length), w3, w4] ∧ S' = S ++ [.lst ((mulRaw a b j).map D.int)]) (rangeL 0 a.length) [some (.tup (a.map D.int)), some (.tup (b.map D.int)), some (.ref S.length), none, none] (S ++ [.lst ((mulRaw a b 0).map D.int)]) (fun _ _ _ _ _ => trivial) ⟨_, _, rfl, rfl⟩ (by
      rintro j y env S' hy ⟨w3, w4, rfl, rfl⟩
      obtain ⟨hj, rfl⟩ := rangeL_get hy
      rw [Int.zero_add]
      obtain ⟨u4, h⟩ := lrow_eq (B := S) (a := a) (b := b) (r := mulRaw a b j) (i := j) ha hb hp hq hpq (by rw [mulRaw_len]; omega) hj w4
      refine ⟨_, _, _, rfl, ?_, some (.int j), u4, rfl, rfl⟩
      have hg : RgB (b.length : Int) := .of (by omega)
      simp only [Nat.add_eq, mulRaw]
      simp [hg]
      simpa using h)
  rw [rangeL_len] at h1
  have hg : RgB (a.length : Int) := .of (by omega)
  have hg2 : RgB ((a.length : Int) + b.length) := .of (by omega)
  have e : ((a.length : Int) + b.length).toNat = a.length + b.length := by omega
  have ht := law_trimmed_eq (d := .ref S.length) cB (seq_last S _) (by rw [mulRaw_len]; omega) (.inr ⟨_, rfl⟩)
  refine gc_pure (T := [.lst ((mulRaw a b a.length).map D.int)]) hc ?_ (by simp)
  simp [m__law_times, hg, hg2, e, hlc, h1, ht, mulP]
end LW
namespace LW
open PySem PySem.Spec PyProof.Rows L2 RT RZ DL
@[simp] theorem clBs_intf {α : Type} (n : Nat) (f : α → Int) : ∀ l : List α, D.clBs n (l.map fun k => D.int (f k)) = true
  | [] => rfl
  | i :: is => by simp [clBs_intf n f is]
theorem getD_zero {l : List Int} {k : Nat} (h : ¬ k < l.length) : l.getD k 0 = 0 := by simp [List.getD_eq_getElem?_getD, List.getElem?_eq_none (Nat.le_of_not_lt h)]
def plusL (a b : List Int) (n : Nat) : List Int := (List.range n).map fun k => a.getD k 0 + b.getD k 0
def plusP (a b : List Int) : List Int := trim (plusL a b (max a.length b.length))
theorem plusL_len {a b : List Int} {n : Nat} : (plusL a b n).length = n := by simp [plusL]
theorem plusP_len {a b : List Int} : (plusP a b).length ≤ max a.length b.length := Nat.le_trans (trim_len _) (Nat.le_of_eq plusL_len)
theorem plusP_bits {a b : List Int} {p : Nat} (ha : PB p a) (hb : PB p b) : PB (p + 1) (plusP a b) := fun x hx => by
  have h := trim_mem hx
  simp only [plusL, List.mem_map] at h
  obtain ⟨k, -, rfl⟩ := h
  have h1 := ha.get k
  have h2 := hb.get k
  rw [Nat.pow_succ]
  omega
theorem coefficient_at_eq {S : Sto} {a : List Int} {k : Nat} (hc : ClS S) : F_coefficient_at [.tup (a.map D.int), .int k] S = some (.ok (.int (a.getD k 0)), S) := by
  refine gc_pure (T := []) hc ?_ (by simp)
  by_cases h : k < a.length
  · have h2 := at_nat h
    generalize a.getD k 0 = x at *
    simp [m_coefficient_at, h, h2]
  · rw [getD_zero h]
    simp [m_coefficient_at, h]
theorem max_int (a b : List Int) : (if (b.length : Int) > a.length then (b.length : Int) else a.length) = ((max a.length b.length : Nat) : Int) := by split <;> omega
theorem max_int' (a b : List Int) : (if a.length < b.length then (b.length : Int) else a.length) = ((max a.length b.length : Nat) : Int) := by split <;> omega
set_option maxHeartbeats 1000000 in
theorem added_eq {S : Sto} {a b : List Int} (hc : ClS S) (hla : a.length ≤ 500) (hlb : b.length ≤ 500) : F_added [.tup (a.map D.int), .tup (b.map D.int)] S = some (.ok (.tup ((plusP a b).map D.int)), S) := by
  obtain ⟨m, hm⟩ : ∃ m, m = max a.length b.length := ⟨_, rfl⟩
  have hlc : lcD (fun _ => True) (.nm 3) dTrue (dOp gAdd (dCall F_coefficient_at (dCons (dVar 0) (dCons (dVar 3) dNil))) (dCall F_coefficient_at (dCons (dVar 1) (dCons (dVar 3) dNil)))) [some (.tup (a.map D.int)), some (.tup (b.map D.int)), some (.int m), none] S.length (rangeL 0 m) (S ++ [.lst []]) = some (S ++ [.lst ((plusL a b m).map D.int)]) := by
    rw [lcD_ix (t := .nm 3) (rangeL 0 m) (fun k => .int (a.getD k 0 + b.getD k 0)) (fun _ => trivial) (fun j x hx => by
        obtain ⟨hj, rfl⟩ := rangeL_at hx
        refine ⟨_, rfl, rfl, ?_⟩
        have c : ClS (S ++ [.lst ((List.range j).map fun k => D.int (a.getD k 0 + b.getD k 0))]) := hc.app (fun o ho => by simp only [List.mem_singleton] at ho; subst ho; exact clBs_intf _ _ _)
        have h1 := coefficient_at_eq (a := a) (k := j) c
        have h2 := coefficient_at_eq (a := b) (k := j) c
        generalize (List.range j).map (fun k => D.int (a.getD k 0 + b.getD k 0)) = R at *
        simp [-E_runB, h1, h2]) (by rw [rangeL_len]; have := line_big; omega)]
    rw [rangeL_len, plusL, List.map_map]
    rfl
  have ht := trimmed_eq (d := .ref S.length) (S := S ++ [.lst ((plusL a b m).map D.int)]) (hc.app (by simp [O.items])) (seq_last S _) (by rw [plusL_len]; omega)
  rw [plusP, ← hm]
  refine gc_pure (T := [.lst ((plusL a b m).map D.int)]) hc ?_ (by simp)
  have hg : RgB (m : Int) := .of (by omega)
  have e := max_int' a b
  rw [← hm] at e
  simp [m_added, e, hg, hlc, ht]
set_option maxHeartbeats 1000000 in
theorem law_plus_eq {S : Sto} {a b : List Int} (hc : ClS S) (hla : a.length ≤ 500) (hlb : b.length ≤ 500) : F__law_plus [.tup (a.map D.int), .tup (b.map D.int)] S = some (.ok (.tup ((plusP a b).map D.int)), S) := by
  obtain ⟨m, hm⟩ : ∃ m, m = max a.length b.length := ⟨_, rfl⟩
  obtain ⟨env', S', h1, w3, w4, rfl, rfl⟩ := forD_all (ok := fun _ => True) (t := .nm 3) (fb := (sSeq (sAsg (.nm 4) (dC (.int 0)))
    (sSeq (sIf (dBl (dOp gLt (dVar 3) (dCB cLen (dCons (dVar 0) dNil)))) (sAsg (.nm 4) (dOp gIx (dVar 0) (dVar 3))) sNext)
    (sSeq (sIf (dBl (dOp gLt (dVar 3) (dCB cLen (dCons (dVar 1) dNil)))) (sAsg (.nm 4) (dOp gAdd (dVar 4) (dOp gIx (dVar 1) (dVar 3)))) sNext)
    (sExpr (dM "list" mAppend (dVar 2) (dCons (dVar 4) dNil)))))))
    (fun j env S' => ∃ w3 w4, env = [some (.tup (a.map D.int)), some (.tup (b.map D.int)), some (.ref S.length), w3, w4] ∧ S' = S ++ [.lst ((plusL a b j).map D.int)]) (rangeL 0 m) [some (.tup (a.map D.int)), some (.tup (b.map D.int)), some (.ref S.length), none, none] (S ++ [.lst []]) (fun _ _ _ _ _ => trivial) ⟨_, _, rfl, rfl⟩ (by
      rintro j x env S' hx ⟨w3, w4, rfl, rfl⟩
      obtain ⟨hj, rfl⟩ := rangeL_at hx
      refine ⟨_, _, _, rfl, ?_, some (.int j), some (.int (a.getD j 0 + b.getD j 0)), rfl, rfl⟩
      have e : plusL a b (j + 1) = plusL a b j ++ [a.getD j 0 + b.getD j 0] := by simp [plusL, List.range_succ]
      have hl : j < sizeLine := by have := line_big; omega
      have hlen : (plusL a b j).length = j := plusL_len
      rw [e]
      generalize plusL a b j = R at *
      by_cases h1 : j < a.length
      · have q1 := at_nat h1
        by_cases h2 : j < b.length
        · have q2 := at_nat h2
          generalize a.getD j 0 = x at *
          generalize b.getD j 0 = y at *
          simp [h1, h2, q1, q2, hlen, hl]
        · rw [getD_zero h2]
          generalize a.getD j 0 = x at *
          simp [h1, h2, q1, hlen, hl]
      · rw [getD_zero h1]
        by_cases h2 : j < b.length
        · have q2 := at_nat h2
          generalize b.getD j 0 = y at *
          simp [h1, h2, q2, hlen, hl]
        · rw [getD_zero h2]
          simp [h1, h2, hlen, hl])
  rw [rangeL_len] at h1
  have ht := law_trimmed_eq (d := .ref S.length) (S := S ++ [.lst ((plusL a b m).map D.int)]) (hc.app (by simp [O.items])) (seq_last S _) (by rw [plusL_len]; omega) (.inr ⟨_, rfl⟩)
  rw [plusP, ← hm]
  refine gc_pure (T := [.lst ((plusL a b m).map D.int)]) hc ?_ (by simp)
  have hg : RgB (m : Int) := .of (by omega)
  have e := max_int' a b
  rw [← hm] at e
  simp [m__law_plus, e, hg, h1, ht]
theorem l1 : 1 ≤ sizeLine := by decide
theorem l2 : 2 ≤ sizeLine := by decide
theorem l3 : 3 ≤ sizeLine := by decide
set_option maxHeartbeats 1000000 in
theorem wholes_eq {S : Sto} {a : List Int} (hc : ClS S) (hl : a.length ≤ 1000) : F__law_wholes [.tup (a.map D.int)] S = some (.ok (.bl true), S) := by
  have hlc : lcD (fun S => True) (.nm 1) (dOr (dNot (dTru (dIsi "int" (dVar 1)))) (dTru (dIsi "bool" (dVar 1)))) (dVar 1) [some (.tup (a.map D.int)), none] S.length (a.map D.int) (S ++ [.lst []]) = some (S ++ [.lst []]) := by
    rw [lcD_pure (t := .nm 1) (a.map D.int) (fun _ => false) id (fun _ => trivial) (fun x acc hx => by
        obtain ⟨i, -, rfl⟩ := List.mem_map.mp hx
        refine ⟨_, rfl, ?_, by simp⟩
        simp) (by rw [List.length_map]; have := line_big; omega)]
    rw [List.filter_eq_nil_iff.mpr (by simp)]
    rfl
  refine gc_pure (T := [.lst []]) hc ?_ (by simp)
  simp [m__law_wholes, hlc]
end LW
namespace LW
open PySem PySem.Spec PyProof.Rows L2 RT RZ DL
theorem Wr.cut {t : Nat} {S T C : Sto} (h : Wr t (S ++ T) C) (l : t < S.length) : ∃ B, C = B ++ T ∧ Wr t S B := by
  obtain ⟨q, rfl⟩ := h
  exact ⟨_, List.set_append_left _ _ l, q, rfl⟩
theorem get_len {B C : Sto} {o : O} (h : C.length = B.length) : (C ++ [o])[B.length]? = some o := by rw [← h]; exact get_last _ _
theorem set_len {B C : Sto} {o u : O} (h : C.length = B.length) : (C ++ [o]).set B.length u = C ++ [u] := by rw [← h]; exact set_last _ _ _
theorem Tp.cut {t s : Nat} {B T C : Sto} (h : Tp B t s) (w : Wr t B C) (g : Tp (C ++ T) t s) : Tp C t s := by
  obtain ⟨q, rfl⟩ := w
  have lt2 : t < (B.set t (.lst q)).length := by rw [List.length_set]; exact h.lt
  obtain ⟨p, n, u, ht, hp⟩ := g.tape
  rw [List.getElem?_append_left lt2] at ht
  have ht2 := ht
  rw [List.getElem?_set_self h.lt] at ht2
  cases ht2
  obtain ⟨ns, hs⟩ := h.src
  exact ⟨⟨p, n, u, ht, hp⟩, ⟨ns, by rw [List.getElem?_set_ne h.ne]; exact hs⟩, h.ne, h.cl.set (by simp [O.items, h.srclt])⟩
theorem trim_idem0 (l : List Int) : trim (trim l) = trim l := by
  induction l with
  | nil => rfl
  | cons x xs ih =>
    rw [show trim (x :: xs) = if trim xs = [] ∧ x = 0 then [] else x :: trim xs from rfl]
    by_cases h : trim xs = [] ∧ x = 0
    · rw [if_pos h]
      rfl
    · rw [if_neg h, show trim (x :: trim xs) = if trim (trim xs) = [] ∧ x = 0 then [] else x :: trim (trim xs) from rfl, ih, if_neg h]
set_option maxHeartbeats 1000000 in
theorem draws_ex {B0 : Sto} {t s n : Nat} {w : Int} {e1 e2 e3 e5 : Option D} (T : Tp B0 t s) (hw : 0 ≤ w) (hw2 : w ≤ 1000000000) (hn : n ≤ 1000) : ∃ (ls : List Int) (C : Sto), lcD (fun _ => True) (.nm 6) dTrue (dOp gSub (dCall F__law_draw (dCons (dVar 0) (dCons (dOp gAdd (dOp gMul (dC (.int 2)) (dVar 4)) (dC (.int 1))) dNil))) (dVar 4)) [some (.ref t), e1, e2, e3, some (.int w), e5, none] B0.length (rangeL 0 n) (B0 ++ [.lst []]) = some (C ++ [.lst (ls.map D.int)]) ∧ ls.length = n ∧ PB 31 ls ∧ Tp C t s ∧ Wr t B0 C := by
  obtain ⟨acc, S', h1, C, ls, rfl, rfl, h2, h3, h4, h5⟩ := lcD_rule (ok := fun _ => True) (t := .nm 6) (gt := dTrue) (fe := (dOp gSub (dCall F__law_draw (dCons (dVar 0) (dCons (dOp gAdd (dOp gMul (dC (.int 2)) (dVar 4)) (dC (.int 1))) dNil))) (dVar 4))) (env := [some (.ref t), e1, e2, e3, some (.int w), e5, none]) (n := B0.length)
    (fun i acc S' => ∃ C ls, S' = C ++ [.lst acc] ∧ acc = ls.map D.int ∧ ls.length = i ∧ PB 31 ls ∧ Tp C t s ∧ Wr t B0 C) (rangeL 0 n) 0 [] (B0 ++ [.lst []]) (fun _ _ _ _ => trivial) ⟨B0, [], rfl, rfl, rfl, (fun x hx => by cases hx), T, T.wr⟩ (by
      rintro j x acc S' hx ⟨C, ls, rfl, rfl, hl, hp, TC, hW⟩
      obtain ⟨hj, rfl⟩ := rangeL_at hx
      obtain ⟨v, C', q1, q2, q3, q4, q5, q6⟩ := draw_app (T := [.lst (ls.map D.int)]) (m := 2 * w + 1) TC (TC.cl.app (by simp [O.items])) (by omega)
      have W2 := hW.trans q5
      refine ⟨_, rfl, .inr ⟨_, .int (v - w), C' ++ [.lst (ls.map D.int)], rfl, ?_, get_len W2.len, by rw [List.length_map, hl]; have := line_big; omega, C', ls ++ [v - w], set_len W2.len, by simp, by simp [hl], ?_, q4, W2⟩⟩
      · simp [q1, hw2, show (-18446744073709551616 : Int) < w by omega, show w < (18446744073709551616 : Int) by omega]
      · intro y hy
        rcases List.mem_append.mp hy with hy | hy
        · exact hp y hy
        · simp only [List.mem_singleton] at hy
          subst hy
          simp only [Nat.reducePow]
          omega)
  rw [rangeL_len, Nat.zero_add] at h2
  exact ⟨ls, C, h1, h2, h3, h4, h5⟩
theorem widths {m : Int} (h0 : 0 ≤ m) (h1 : m ≤ 8) : ∃ w : Int, atI [D.int 0, .int 999999998, .int 30000, .int 900, .int 170, .int 60, .int 30, .int 18, .int 12] m = some (.int w) ∧ 0 ≤ w ∧ w ≤ 999999998 := by
  have : m = 0 ∨ m = 1 ∨ m = 2 ∨ m = 3 ∨ m = 4 ∨ m = 5 ∨ m = 6 ∨ m = 7 ∨ m = 8 := by omega
  rcases this with rfl | rfl | rfl | rfl | rfl | rfl | rfl | rfl | rfl <;> exact ⟨_, rfl, by omega, by omega⟩
set_option maxHeartbeats 1000000 in
theorem prods_ex {B0 : Sto} {t s n : Nat} {w c : Int} {e1 e2 e3 : Option D} (T : Tp B0 t s) (hw : 0 ≤ w) (hw2 : w ≤ 999999998) (hn : n ≤ 8) (hc : c.natAbs < 2) (hcn : c ≠ 0) : ∃ (ls : List Int) (C : Sto) (w6 : Option D), forD (fun _ => True) (.nm 6) (sAsg (.nm 5) (dCall F__law_times (dCons (dVar 5) (dCons (dCB gTup (dCons (dOp gSub (dC (.int 0)) (dCall F__law_draw (dCons (dVar 0) (dCons (dOp gAdd (dVar 4) (dC (.int 1))) dNil)))) (dCons (dC (.int 1)) dNil))) dNil)))) (rangeL 0 n) [some (.ref t), e1, e2, e3, some (.int w), some (.tup [.int c]), none] B0 = some (.nx, [some (.ref t), e1, e2, e3, some (.int w), some (.tup (ls.map D.int)), w6], C) ∧ ls.length ≤ 17 ∧ PB 350 ls ∧ Tp C t s ∧ Wr t B0 C ∧ trim ls = ls := by
  obtain ⟨env', S', h1, ls, w6, rfl, h2, h3, h4, h5, h6⟩ := forD_all (ok := fun _ => True) (t := .nm 6) (fb := (sAsg (.nm 5) (dCall F__law_times (dCons (dVar 5) (dCons (dCB gTup (dCons (dOp gSub (dC (.int 0)) (dCall F__law_draw (dCons (dVar 0) (dCons (dOp gAdd (dVar 4) (dC (.int 1))) dNil)))) (dCons (dC (.int 1)) dNil))) dNil)))))
    (fun j env S' => ∃ ls w6, env = [some (.ref t), e1, e2, e3, some (.int w), some (.tup (ls.map D.int)), w6] ∧ ls.length ≤ 2 * j + 1 ∧ PB (42 * j + 1) ls ∧ Tp S' t s ∧ Wr t B0 S' ∧ trim ls = ls) (rangeL 0 n) [some (.ref t), e1, e2, e3, some (.int w), some (.tup [.int c]), none] B0 (fun _ _ _ _ _ => trivial) ⟨[c], none, rfl, by simp, by intro x hx; simp only [List.mem_singleton] at hx; subst hx; exact hc, T, T.wr, by simp [trim, hcn]⟩ (by
      rintro j x env S' hx ⟨ls, w6, rfl, hl, hp, TC, hW, -⟩
      obtain ⟨hj, rfl⟩ := rangeL_at hx
      obtain ⟨v, C', q1, q2, q3, q4, q5⟩ := draw_wr (m := w + 1) TC (by omega)
      have hb : PB 30 [-v, 1] := by
        intro x hx
        simp only [List.mem_cons, List.not_mem_nil, or_false] at hx
        simp only [Nat.reducePow]
        rcases hx with rfl | rfl <;> omega
      have hm := law_times_eq (a := ls) (b := [-v, 1]) q4.cl hp hb (by omega) (by omega) (by omega) (by omega) (by simp)
      refine ⟨_, _, C', rfl, ?_, mulP ls [-v, 1], some (.int j), rfl, Nat.le_trans mulP_len (by simp only [List.length_cons, List.length_nil]; omega), (mulP_bits hp hb (by omega) (by simp)).mono (by omega), q4, hW.trans q5, trim_idem0 _⟩
      have := l2
      simp only [List.map_cons, List.map_nil] at hm
      simp [q1, this, hm])
  rw [rangeL_len] at h2 h3
  exact ⟨ls, S', w6, h1, by omega, h3.mono (by omega), h4, h5, h6⟩
set_option maxHeartbeats 2000000 in
theorem poly_ex {S : Sto} {t s : Nat} (T : Tp S t s) : ∃ (ls : List Int) (B : Sto), F__law_polynomial [.ref t, .int 9] S = some (.ok (.tup (ls.map D.int)), B) ∧ Wr t S B ∧ Tp B t s ∧ ls.length ≤ 17 ∧ PB 360 ls ∧ trim ls = ls := by
  obtain ⟨v1, S1, d1, a1, b1, T1, W1⟩ := draw_wr (m := 10) T (by decide)
  obtain ⟨v2, B, d2, a2, b2, T2, W2⟩ := draw_wr (m := 4) T1 (by decide)
  have W12 := W1.trans W2
  have n1 : v1 < 10 := by omega
  have n2 : v2 < 4 := by omega
  by_cases hv : v2 < 2
  · obtain ⟨B0, hB0⟩ : ∃ B0, B0 = B ++ [.lst [.int 9, .int 1000000000]] := ⟨_, rfl⟩
    have hs : seqOf (.ref B.length) B0 = some [.int 9, .int 1000000000] := by rw [hB0]; exact seq_last _ _
    have T3 : Tp B0 t s := by rw [hB0]; exact T2.app (T2.cl.app (by simp [O.items]))
    obtain ⟨w, hw, w0, w1⟩ : ∃ w : Int, atI [D.int 9, .int 1000000000] v2 = some (.int w) ∧ 0 ≤ w ∧ w ≤ 1000000000 := by
      have : v2 = 0 ∨ v2 = 1 := by omega
      rcases this with rfl | rfl <;> exact ⟨_, rfl, by omega, by omega⟩
    obtain ⟨n, rfl⟩ : ∃ n : Nat, v1 = n := ⟨v1.toNat, by omega⟩
    obtain ⟨ls, C, c1, c2, c3, c4, c5⟩ := draws_ex (n := n) (e1 := some (.int 9)) (e2 := some (.int n)) (e3 := some (.int v2)) (e5 := none) T3 w0 w1 (by omega)
    have hg : RgB (n : Int) := .of (by omega)
    have ht := law_trimmed_eq (d := .ref B0.length) (S := C ++ [.lst (ls.map D.int)]) (ls := ls) (c4.cl.app (by simp [O.items])) (seq_lst (get_len c5.len)) (by omega) (.inr ⟨_, rfl⟩)
    rw [hB0] at c5
    obtain ⟨B', rfl, W3⟩ := c5.cut T2.lt
    refine ⟨trim ls, B', ?_, W12.trans W3, T2.cut W3 c4, Nat.le_trans (trim_len _) (by omega), c3.trim.mono (by omega), trim_idem0 _⟩
    refine gc_wr (T := [.lst [.int 9, .int 1000000000], .lst (ls.map D.int)]) (W12.trans W3) (T2.cut W3 c4).cl ?_ (by simp)
    have hL : gLst [.int 9, .int 1000000000] B = some (.ref B.length, B0) := by rw [hB0]; exact E_gLst _ l2
    have e : B' ++ [O.lst [.int 9, .int 1000000000], .lst (ls.map D.int)] = B' ++ [O.lst [.int 9, .int 1000000000]] ++ [.lst (ls.map D.int)] := by simp
    rw [e]
    generalize B' ++ [O.lst [D.int 9, .int 1000000000]] = C at *
    rw [← hB0] at c5
    simp [-E_gLst, m__law_polynomial, d1, d2, hv, hL, hs, hw, hg, c1, ht]
  · obtain ⟨v3, B3, d3, a3, b3, T3, W3, c3⟩ := draw_app (T := [.lst [.int 1, .int (-1)]]) (m := 2) T2 (T2.cl.app (by simp [O.items])) (by decide)
    obtain ⟨c, hc, cb, cn⟩ : ∃ c : Int, atI [D.int 1, .int (-1)] v3 = some (.int c) ∧ c.natAbs < 2 ∧ c ≠ 0 := by
      have : v3 = 0 ∨ v3 = 1 := by omega
      rcases this with rfl | rfl <;> exact ⟨_, rfl, by decide, by decide⟩
    obtain ⟨C3, hC3⟩ : ∃ C3, C3 = B3 ++ [.lst [.int 1, .int (-1)]] := ⟨_, rfl⟩
    have T3' : Tp C3 t s := by rw [hC3]; exact T3.app c3
    have s3 : seqOf (.ref B.length) C3 = some [.int 1, .int (-1)] := by rw [hC3]; exact seq_lst (get_len W3.len)
    rw [← hC3] at d3
    obtain ⟨n, hn, n8⟩ : ∃ n : Nat, (if (0 : Int) > v1 - 1 then 0 else v1 - 1) = n ∧ n ≤ 8 := ⟨(if (0 : Int) > v1 - 1 then 0 else v1 - 1).toNat, by split <;> omega, by split <;> omega⟩
    obtain ⟨w, hw, w0, w1⟩ := widths (m := n) (by omega) (by omega)
    obtain ⟨E3, hE3⟩ : ∃ E3, E3 = C3 ++ [.lst [D.int 0, .int 999999998, .int 30000, .int 900, .int 170, .int 60, .int 30, .int 18, .int 12]] := ⟨_, rfl⟩
    have TE : Tp E3 t s := by rw [hE3]; exact T3'.app (T3'.cl.app (by simp [O.items]))
    have sE : seqOf (.ref C3.length) E3 = some [D.int 0, .int 999999998, .int 30000, .int 900, .int 170, .int 60, .int 30, .int 18, .int 12] := by rw [hE3]; exact seq_last _ _
    have hL1 : gLst [.int 1, .int (-1)] B = some (.ref B.length, B ++ [.lst [.int 1, .int (-1)]]) := E_gLst _ l2
    have hL2 : gLst [D.int 0, .int 999999998, .int 30000, .int 900, .int 170, .int 60, .int 30, .int 18, .int 12] C3 = some (.ref C3.length, E3) := by rw [hE3]; exact E_gLst _ (by decide)
    obtain ⟨v4, E4, d4, a4, b4, T4, W4⟩ := draw_wr (m := 3) TE (by decide)
    obtain ⟨w', hw', w0', w1'⟩ : ∃ w' : Int, (if v4 = 0 then (if (3 : Int) < w then 3 else w) else w) = w' ∧ 0 ≤ w' ∧ w' ≤ 999999998 := ⟨_, rfl, by (repeat' split) <;> omega, by (repeat' split) <;> omega⟩
    obtain ⟨ls, C, w6, p1, p2, p3, p4, p5, p6⟩ := prods_ex (n := n) (c := c) (e1 := some (.int 9)) (e2 := some (.int n)) (e3 := some (.int v2)) T4 w0' w1' n8 cb cn
    have hg : RgB (n : Int) := .of (by omega)
    suffices h : ∃ ls' Z, r__law_polynomial F__law_plus F__law_draw F__law_times F__law_trimmed [.ref t, .int 9] S = some (.ok (.tup (ls'.map D.int)), Z) ∧ ls'.length ≤ 17 ∧ PB 360 ls' ∧ Tp Z t s ∧ Wr t C Z ∧ trim ls' = ls' by
      obtain ⟨ls', Z, z1, z2, z3, z4, z5, z6⟩ := h
      have WZ := (W4.trans p5).trans z5
      have eE : E3 = B3 ++ [.lst [.int 1, .int (-1)], .lst [D.int 0, .int 999999998, .int 30000, .int 900, .int 170, .int 60, .int 30, .int 18, .int 12]] := by rw [hE3, hC3]; simp
      rw [eE] at WZ
      obtain ⟨B', rfl, WB⟩ := WZ.cut T3.lt
      have WW := (W12.trans W3).trans WB
      have TB := T3.cut WB z4
      exact ⟨ls', B', gc_wr WW TB.cl z1 (by simp), WW, TB, z2, z3, z6⟩
    have l1 := l1
    have hw2 : ∀ k : Int, v4 = 0 → (if 3 < w then 3 else w) = w' := fun _ h => by rw [← hw', if_pos h]
    by_cases h3 : v2 = 3
    · subst h3
      obtain ⟨v5, Z, d5, a5, b5, T5, W5⟩ := draw_wr (m := 3) p4 (by decide)
      have hb2 : PB 2 [v5 - 1] := by
        intro x hx
        simp only [List.mem_singleton] at hx
        subst hx
        simp only [Nat.reducePow]
        omega
      have hb : PB 350 [v5 - 1] := hb2.mono (by omega)
      have hp := law_plus_eq (a := ls) (b := [v5 - 1]) T5.cl (by omega) (by simp)
      refine ⟨plusP ls [v5 - 1], Z, ?_, Nat.le_trans plusP_len (by simp only [List.length_singleton]; omega), (plusP_bits p3 hb).mono (by omega), T5, W5, trim_idem0 _⟩
      simp only [List.map_cons, List.map_nil] at hp
      by_cases h0 : v4 = 0
      · rw [if_pos h0] at hw'
        simp [-E_gLst, m__law_polynomial, d1, d2, hv, hL1, hL2, d3, s3, hc, l1, hn, sE, hw, d4, h0, hw', hg, p1, d5, hp]
      · rw [if_neg h0] at hw'
        simp [-E_gLst, m__law_polynomial, d1, d2, hv, hL1, hL2, d3, s3, hc, l1, hn, sE, hw, d4, h0, hw', hg, p1, d5, hp]
    · refine ⟨ls, C, ?_, p2, p3.mono (by omega), p4, p4.wr, p6⟩
      by_cases h0 : v4 = 0
      · rw [if_pos h0] at hw'
        simp [-E_gLst, m__law_polynomial, d1, d2, hv, hL1, hL2, d3, s3, hc, l1, hn, sE, hw, d4, h0, hw', hg, p1, h3]
      · rw [if_neg h0] at hw'
        simp [-E_gLst, m__law_polynomial, d1, d2, hv, hL1, hL2, d3, s3, hc, l1, hn, sE, hw, d4, h0, hw', hg, p1, h3]
end LW
namespace LW
open PySem PySem.Spec PyProof.Rows L2 RT RZ DL
/-! ### the value of a polynomial, and what + and * make of it -/
def ev : List Int → Int → Int
  | [], _ => 0
  | c :: l, n => c + n * ev l n
theorem ev_trim (n : Int) : ∀ l : List Int, ev (trim l) n = ev l n
  | [] => rfl
  | x :: xs => by
    have ih := ev_trim n xs
    unfold trim
    split
    · rename_i h
      rw [h.1] at ih
      simp only [ev] at ih ⊢
      rw [← ih, h.2]
      simp
    · simp only [ev]
      rw [ih]
theorem ev_app (n x : Int) : ∀ l : List Int, ev (l ++ [x]) n = ev l n + x * n ^ l.length
  | [] => by simp [ev]
  | c :: l => by
    simp only [List.cons_append, ev, ev_app n x l, List.length_cons, Int.pow_succ]
    rw [Int.mul_add, ← Int.add_assoc]
    congr 1
    rw [← Int.mul_assoc, ← Int.mul_assoc, Int.mul_comm n x, Int.mul_assoc, Int.mul_assoc, Int.mul_comm n]
theorem take_one {l : List Int} {N : Nat} (h : N < l.length) : l.take (N + 1) = l.take N ++ [l.getD N 0] := by
  rw [List.take_add_one, List.getD_eq_getElem?_getD, List.getElem?_eq_getElem h]
  rfl
theorem ev_take (l : List Int) (n : Int) (N : Nat) : ev (l.take (N + 1)) n = ev (l.take N) n + l.getD N 0 * n ^ N := by
  by_cases h : N < l.length
  · rw [take_one h, ev_app, List.length_take, Nat.min_eq_left (by omega)]
  · rw [getD_zero h, List.take_of_length_le (by omega), List.take_of_length_le (by omega)]
    simp
theorem valN_ev (l : List Int) (n : Int) : ∀ j, j ≤ l.length → valN l n j = ev (l.drop (l.length - j)) n
  | 0, _ => by
    rw [Nat.sub_zero, List.drop_length]
    rfl
  | j + 1, h => by
    have e : l.length - j = l.length - (j + 1) + 1 := by omega
    have h2 : l.length - (j + 1) < l.length := by omega
    rw [List.drop_eq_getElem_cons h2]
    unfold valN ev
    rw [valN_ev l n j (by omega), ← e, show l.length - 1 - j = l.length - (j + 1) by omega, List.getD_eq_getElem?_getD, List.getElem?_eq_getElem h2]
    simp only [Option.getD_some]
    rw [Int.mul_comm, Int.add_comm]
theorem val_ev (l : List Int) (n : Int) : valN l n l.length = ev l n := by rw [valN_ev l n _ (Nat.le_refl _), Nat.sub_self, List.drop_zero]
theorem ev_plusL (a b : List Int) (n : Int) : ∀ N, ev (plusL a b N) n = ev (a.take N) n + ev (b.take N) n
  | 0 => by simp [plusL, ev]
  | N + 1 => by
    have e : plusL a b (N + 1) = plusL a b N ++ [a.getD N 0 + b.getD N 0] := by simp [plusL, List.range_succ]
    rw [e, ev_app, ev_plusL a b n N, plusL_len, ev_take, ev_take, Int.add_mul]
    omega
theorem ev_plusP (a b : List Int) (n : Int) : ev (plusP a b) n = ev a n + ev b n := by
  unfold plusP
  rw [ev_trim, ev_plusL, List.take_of_length_le (by omega), List.take_of_length_le (by omega)]
theorem ev_set (n v : Int) : ∀ (r : List Int) (k : Nat), k < r.length → ev (r.set k (r.getD k 0 + v)) n = ev r n + v * n ^ k
  | [], k, h => by simp at h
  | x :: r, 0, _ => by
    simp only [List.set_cons_zero, ev, List.getD_cons_zero, Int.pow_zero]
    omega
  | x :: r, k + 1, h => by
    have ih := ev_set n v r k (by simpa using h)
    simp only [List.set_cons_succ, ev, List.getD_cons_succ, ih, Int.pow_succ]
    rw [Int.mul_add, ← Int.add_assoc]
    congr 1
    rw [Int.mul_comm n, Int.mul_assoc]
theorem ev_mulRow (r b : List Int) (i : Nat) (x n : Int) : ∀ j, i + j ≤ r.length → ev (mulRow r i x b j) n = ev r n + x * n ^ i * ev (b.take j) n
  | 0, _ => by simp [mulRow, ev]
  | j + 1, h => by
    unfold mulRow
    rw [ev_set n _ _ _ (by rw [mulRow_len]; omega), ev_mulRow r b i x n j (by omega), ev_take, Int.mul_add, Int.add_assoc]
    congr 2
    rw [Int.pow_add, Int.mul_assoc, Int.mul_assoc]
    congr 1
    rw [← Int.mul_assoc, ← Int.mul_assoc, Int.mul_comm (n ^ i)]
theorem ev_zeros (n : Int) : ∀ k, ev (List.replicate k 0) n = 0
  | 0 => rfl
  | k + 1 => by simp [List.replicate_succ, ev, ev_zeros n k]
theorem ev_mulRaw (a b : List Int) (n : Int) : ∀ i, i ≤ a.length → ev (mulRaw a b i) n = ev (a.take i) n * ev b n
  | 0, _ => by simp [mulRaw, ev, ev_zeros]
  | i + 1, h => by
    unfold mulRaw
    rw [ev_mulRow _ _ _ _ _ _ (by rw [mulRaw_len]; omega), ev_mulRaw a b n i (by omega), List.take_length, ev_take, Int.add_mul]
theorem ev_mulP (a b : List Int) (n : Int) : ev (mulP a b) n = ev a n * ev b n := by
  unfold mulP
  rw [ev_trim, ev_mulRaw a b n _ (Nat.le_refl _), List.take_length]
/-! coefficients -/
theorem getD_trim (l : List Int) : ∀ k, (trim l).getD k 0 = l.getD k 0 := by
  induction l with
  | nil => exact fun _ => rfl
  | cons x xs ih =>
    intro k
    unfold trim
    split
    · rename_i h
      cases k with
      | zero => simpa using h.2.symm
      | succ k =>
        have := ih k
        rw [h.1] at this
        simpa using this
    · cases k with
      | zero => rfl
      | succ k => simpa using ih k
theorem trim_le {l : List Int} {m : Nat} (h : ∀ k, m ≤ k → l.getD k 0 = 0) : (trim l).length ≤ m := by
  induction l generalizing m with
  | nil => exact Nat.zero_le _
  | cons x xs ih =>
    unfold trim
    split
    · exact Nat.zero_le _
    · rename_i hn
      cases m with
      | zero =>
        exfalso
        apply hn
        have := ih (m := 0) fun k _ => by simpa using h (k + 1) (Nat.zero_le _)
        exact ⟨List.eq_nil_of_length_eq_zero (by omega), by simpa using h 0 (Nat.le_refl _)⟩
      | succ m =>
        have := ih (m := m) fun k hk => by simpa using h (k + 1) (by omega)
        simpa using this
theorem trim_cons (x : Int) (xs : List Int) : trim (x :: xs) = if trim xs = [] ∧ x = 0 then [] else x :: trim xs := rfl
theorem trim_idem (l : List Int) : trim (trim l) = trim l := by
  induction l with
  | nil => rfl
  | cons x xs ih =>
    rw [trim_cons]
    by_cases h : trim xs = [] ∧ x = 0
    · rw [if_pos h]
      rfl
    · rw [if_neg h, trim_cons, ih, if_neg h]
theorem getD_set (r : List Int) (k : Nat) (v : Int) (j : Nat) (h : k < r.length) : (r.set k v).getD j 0 = if j = k then v else r.getD j 0 := by
  rw [List.getD_eq_getElem?_getD, List.getElem?_set]
  by_cases e : k = j
  · subst e
    simp [h]
  · rw [if_neg e, if_neg (Ne.symm e), List.getD_eq_getElem?_getD]
theorem getD_plusL (a b : List Int) (N k : Nat) : (plusL a b N).getD k 0 = if k < N then a.getD k 0 + b.getD k 0 else 0 := by
  split
  · rename_i h
    simp [plusL, h]
  · rename_i h
    exact getD_zero (by rw [plusL_len]; exact h)
theorem getD_plusP (a b : List Int) (k : Nat) : (plusP a b).getD k 0 = a.getD k 0 + b.getD k 0 := by
  unfold plusP
  rw [getD_trim, getD_plusL]
  split
  · rfl
  · rw [getD_zero (by omega), getD_zero (by omega)]
    rfl
theorem getD_mulRow (r b : List Int) (i : Nat) (x : Int) (k : Nat) : ∀ j, i + j ≤ r.length → (mulRow r i x b j).getD k 0 = r.getD k 0 + if i ≤ k ∧ k < i + j then x * b.getD (k - i) 0 else 0
  | 0, _ => by
    rw [if_neg (by omega)]
    simp [mulRow]
  | j + 1, h => by
    have ih := getD_mulRow r b i x k j (by omega)
    unfold mulRow
    rw [getD_set _ _ _ _ (by rw [mulRow_len]; omega)]
    by_cases e : k = i + j
    · rw [if_pos e, if_pos (by omega)]
      rw [if_neg (by omega), e] at ih
      rw [ih, e, Nat.add_sub_cancel_left]
      omega
    · rw [if_neg e, ih]
      by_cases e2 : i ≤ k ∧ k < i + j
      · rw [if_pos e2, if_pos (by omega)]
      · rw [if_neg e2, if_neg (by omega)]
theorem getD_rep (n k : Nat) : (List.replicate n (0 : Int)).getD k 0 = 0 := by
  rw [List.getD_eq_getElem?_getD, List.getElem?_replicate]
  split <;> rfl
theorem getD11 (m : Nat) : [(1 : Int), 1].getD m 0 = if m < 2 then 1 else 0 := by
  match m with
  | 0 => rfl
  | 1 => rfl
  | m + 2 =>
    rw [if_neg (by omega)]
    rfl
theorem getDM (m : Nat) : [(-1 : Int)].getD m 0 = if m < 1 then -1 else 0 := by
  match m with
  | 0 => rfl
  | m + 1 =>
    rw [if_neg (by omega)]
    rfl
theorem getD_mul11 (a : List Int) (k : Nat) : ∀ i, i ≤ a.length → (mulRaw a [1, 1] i).getD k 0 = (if k < i then a.getD k 0 else 0) + if 1 ≤ k ∧ k - 1 < i then a.getD (k - 1) 0 else 0
  | 0, _ => by
    rw [if_neg (by omega), if_neg (by omega)]
    exact getD_rep _ _
  | i + 1, h => by
    have ih := getD_mul11 a k i (by omega)
    unfold mulRaw
    rw [getD_mulRow _ _ _ _ _ _ (by rw [mulRaw_len]; simp only [List.length_cons, List.length_nil]; omega), ih, getD11]
    have q1 : k = i → a.getD i 0 = a.getD k 0 := fun e => by rw [e]
    have q2 : k = i + 1 → a.getD i 0 = a.getD (k - 1) 0 := fun e => by rw [e, Nat.add_sub_cancel]
    have q3 : a.getD i 0 * (if k - i < 2 then 1 else 0) = if k - i < 2 then a.getD i 0 else 0 := by split <;> simp
    rw [q3]
    simp only [List.length_cons, List.length_nil, Nat.zero_add]
    generalize a.getD i 0 = u at *
    generalize a.getD k 0 = v at *
    generalize a.getD (k - 1) 0 = z at *
    clear q3 ih
    (repeat' split) <;> omega
theorem getD_mulM (a : List Int) (k : Nat) : ∀ i, i ≤ a.length → (mulRaw a [-1] i).getD k 0 = if k < i then -a.getD k 0 else 0
  | 0, _ => by
    rw [if_neg (by omega)]
    exact getD_rep _ _
  | i + 1, h => by
    have ih := getD_mulM a k i (by omega)
    unfold mulRaw
    rw [getD_mulRow _ _ _ _ _ _ (by rw [mulRaw_len]; simp only [List.length_cons, List.length_nil]; omega), ih, getDM]
    have q1 : k = i → a.getD i 0 = a.getD k 0 := fun e => by rw [e]
    have q3 : a.getD i 0 * (if k - i < 1 then -1 else 0) = if k - i < 1 then -a.getD i 0 else 0 := by split <;> simp
    rw [q3]
    simp only [List.length_cons, List.length_nil, Nat.zero_add]
    generalize a.getD i 0 = u at *
    generalize a.getD k 0 = v at *
    clear q3 ih
    (repeat' split) <;> omega
theorem getD_P11 (a : List Int) (k : Nat) : (mulP a [1, 1]).getD k 0 = a.getD k 0 + if 1 ≤ k then a.getD (k - 1) 0 else 0 := by
  unfold mulP
  rw [getD_trim, getD_mul11 a k _ (Nat.le_refl _)]
  congr 1
  · split
    · rfl
    · rename_i h
      rw [getD_zero h]
  · by_cases h : 1 ≤ k
    · rw [if_pos h]
      split
      · rfl
      · rw [getD_zero (by omega)]
    · rw [if_neg h, if_neg (by omega)]
theorem getD_PM (a : List Int) (k : Nat) : (mulP a [-1]).getD k 0 = -a.getD k 0 := by
  unfold mulP
  rw [getD_trim, getD_mulM a k _ (Nat.le_refl _)]
  split
  · rfl
  · rename_i h
    rw [getD_zero h]
    rfl
/-! the difference -/
def shN (p : List Int) : Nat → List Int
  | 0 => []
  | j + 1 => plusP (mulP (shN p j) [1, 1]) (trim [p.getD (p.length - 1 - j) 0])
def subP (a b : List Int) : List Int := plusP a (mulP b [-1])
def diffP (p : List Int) : List Int := subP (shN p p.length) p
theorem ev_shN (p : List Int) (n : Int) : ∀ j, ev (shN p j) n = valN p (n + 1) j
  | 0 => rfl
  | j + 1 => by
    unfold shN valN
    rw [ev_plusP, ev_mulP, ev_trim, ev_shN p n j]
    simp only [ev, Int.mul_zero, Int.add_zero, Int.mul_one]
    rw [Int.add_comm n 1]
theorem ev_sub (a b : List Int) (n : Int) : ev (subP a b) n = ev a n - ev b n := by
  unfold subP
  rw [ev_plusP, ev_mulP]
  simp only [ev, Int.mul_zero, Int.add_zero]
  omega
theorem ev_diff (p : List Int) (n : Int) : ev (diffP p) n = ev p (n + 1) - ev p n := by
  unfold diffP
  rw [ev_sub, ev_shN, val_ev]
theorem shN_top (p : List Int) : ∀ j, (∀ k, j ≤ k → (shN p j).getD k 0 = 0) ∧ (1 ≤ j → (shN p j).getD (j - 1) 0 = p.getD (p.length - 1) 0)
  | 0 => ⟨fun _ _ => rfl, fun h => absurd h (by omega)⟩
  | j + 1 => by
    obtain ⟨h1, h2⟩ := shN_top p j
    have hc : ∀ k, (shN p (j + 1)).getD k 0 = (shN p j).getD k 0 + (if 1 ≤ k then (shN p j).getD (k - 1) 0 else 0) + if k = 0 then p.getD (p.length - 1 - j) 0 else 0 := fun k => by
      show (plusP _ _).getD k 0 = _
      rw [getD_plusP, getD_P11, getD_trim]
      congr 1
      cases k with
      | zero => rfl
      | succ k => rfl
    refine ⟨fun k hk => ?_, fun _ => ?_⟩
    · rw [hc, h1 k (by omega), if_pos (by omega), h1 (k - 1) (by omega), if_neg (by omega)]
      rfl
    · rw [hc, Nat.add_sub_cancel]
      by_cases e : j = 0
      · subst e
        rw [h1 0 (Nat.le_refl _)]
        simp
      · rw [h1 j (Nat.le_refl _), if_pos (by omega), if_neg e, h2 (by omega)]
        omega
theorem shN_len (p : List Int) (j : Nat) : (shN p j).length ≤ j := by
  cases j with
  | zero => exact Nat.le_refl _
  | succ j =>
    exact trim_le fun k hk => by
      have := (shN_top p (j + 1)).1 k hk
      show (plusL _ _ _).getD k 0 = 0
      rw [← getD_trim]
      exact this
theorem diff_len {p : List Int} (h : 1 ≤ p.length) : (diffP p).length + 1 ≤ p.length := by
  have : (diffP p).length ≤ p.length - 1 := trim_le fun k hk => by
    rw [← getD_trim]
    show (diffP p).getD k 0 = 0
    unfold diffP subP
    rw [getD_plusP, getD_PM]
    by_cases e : k = p.length - 1
    · rw [e, (shN_top p p.length).2 h]
      omega
    · rw [(shN_top p p.length).1 k (by omega), getD_zero (by omega)]
      rfl
  omega
theorem plusP_trim (a b : List Int) : trim (plusP a b) = plusP a b := trim_idem _
theorem shN_bits {p : List Int} {b : Nat} (h : PB b p) (hl : p.length ≤ 30) : ∀ j, j ≤ p.length → PB (b + 14 * j) (shN p j)
  | 0, _ => fun x hx => by cases hx
  | j + 1, hj => by
    have ih := shN_bits h hl j (by omega)
    have h11 : PB 1 [1, 1] := by
      intro x hx
      simp only [List.mem_cons, List.not_mem_nil, or_false] at hx
      rcases hx with rfl | rfl <;> decide
    have hm := mulP_bits ih h11 (by have := shN_len p j; omega) (by simp)
    have hc : PB (b + 14 * j + 1 + 11) (trim [p.getD (p.length - 1 - j) 0]) := fun x hx => by
      have := trim_mem hx
      simp only [List.mem_singleton] at this
      subst this
      exact Nat.lt_of_lt_of_le (h.get _) (Nat.pow_le_pow_right (by omega) (by omega))
    exact (plusP_bits hm hc).mono (by omega)
theorem mone : PB 1 [-1] := by
  intro x hx
  simp only [List.mem_singleton] at hx
  subst hx
  decide
theorem diff_bits {p : List Int} {b : Nat} (h : PB b p) (hl : p.length ≤ 20) : PB (b + 300) (diffP p) := by
  have h1 := shN_bits h (by omega) p.length (Nat.le_refl _)
  have h2 := mulP_bits h mone (by omega) (by simp)
  exact (plusP_bits (h1.mono (by omega)) (h2.mono (show b + 1 + 11 ≤ b + 290 by omega))).mono (by omega)
end LW
namespace LW
open PySem PySem.Spec PyProof.Rows L2 RT RZ DL
/-! ### signs -/
def sg (x : Int) : Int := (if 0 < x then 1 else 0) - (if x < 0 then 1 else 0)
theorem sg_pos {x : Int} (h : 0 < x) : sg x = 1 := by unfold sg; rw [if_pos h, if_neg (by omega)]; rfl
theorem sg_neg {x : Int} (h : x < 0) : sg x = -1 := by unfold sg; rw [if_neg (by omega), if_pos h]; rfl
theorem sg_zero : sg 0 = 0 := rfl
theorem sg_cases (x : Int) : (0 < x ∧ sg x = 1) ∨ (x = 0 ∧ sg x = 0) ∨ (x < 0 ∧ sg x = -1) := by
  rcases Int.lt_trichotomy x 0 with h | h | h
  · exact .inr (.inr ⟨h, sg_neg h⟩)
  · exact .inr (.inl ⟨h, by rw [h]; rfl⟩)
  · exact .inl ⟨h, sg_pos h⟩
theorem grow {b : Nat} {x n : Int} (hx : x ≠ 0) (hn : (2 : Int) ^ b ≤ n) : ∀ l : List Int, PB b (l ++ [x]) → sg (ev (l ++ [x]) n) = sg x ∧ (l ≠ [] → n - 2 ^ b ≤ (ev (l ++ [x]) n).natAbs)
  | [], _ => ⟨by simp [ev], fun h => absurd rfl h⟩
  | c :: l, h => by
    obtain ⟨ih, -⟩ := grow hx hn l (fun y hy => h y (List.mem_cons_of_mem _ hy))
    have hc : c.natAbs < 2 ^ b := h c (List.mem_cons_self)
    have hc2 : (c.natAbs : Int) < 2 ^ b := by exact_mod_cast hc
    simp only [List.cons_append, ev]
    generalize ev (l ++ [x]) n = v at *
    have hv : v ≠ 0 := by
      intro e
      rw [e, sg_zero] at ih
      rcases sg_cases x with q | q | q <;> omega
    have n0 : 0 ≤ n := by
      have : (0 : Int) < 2 ^ b := Int.pow_pos (by omega)
      omega
    rcases Int.lt_or_gt_of_ne hv with q | q
    · have e1 : n * v ≤ n * (-1) := Int.mul_le_mul_of_nonneg_left (by omega) n0
      refine ⟨?_, fun _ => by omega⟩
      rw [← ih, sg_neg q, sg_neg (by omega)]
    · have e1 : n * 1 ≤ n * v := Int.mul_le_mul_of_nonneg_left (by omega) n0
      refine ⟨?_, fun _ => by omega⟩
      rw [← ih, sg_pos q, sg_pos (by omega)]
theorem trim_split {p : List Int} (h : trim p = p) (hp : p ≠ []) : ∃ l x, p = l ++ [x] ∧ x ≠ 0 := by
  obtain ⟨l, x, rfl⟩ := last_split hp
  refine ⟨l, x, rfl, ?_⟩
  rintro rfl
  rw [trim_zero] at h
  have := trim_len l
  rw [h, List.length_append] at this
  simp at this
  omega
/-- the sign far out -/
theorem far {b : Nat} {p : List Int} (h : trim p = p) (hp : p ≠ []) (hb : PB b p) : ∃ s : Int, (s = 1 ∨ s = -1) ∧ ∀ n : Int, 2 ^ b ≤ n → sg (ev p n) = s := by
  obtain ⟨l, x, rfl, hx⟩ := trim_split h hp
  refine ⟨sg x, ?_, fun n hn => (grow hx hn l hb).1⟩
  rcases sg_cases x with q | q | q
  · exact .inl q.2
  · exact absurd q.1 hx
  · exact .inr q.2
theorem diff_ne {b : Nat} {p : List Int} (h : trim p = p) (hp : 2 ≤ p.length) (hb : PB b p) : diffP p ≠ [] := by
  intro e
  obtain ⟨l, x, rfl, hx⟩ := trim_split h (by rintro rfl; simp at hp)
  have hl : l ≠ [] := by
    rintro rfl
    simp at hp
  have hd : ∀ n, ev (l ++ [x]) (n + 1) = ev (l ++ [x]) n := fun n => by
    have := ev_diff (l ++ [x]) n
    rw [e] at this
    simp only [ev] at this
    omega
  have hall : ∀ k : Nat, ev (l ++ [x]) k = ev (l ++ [x]) 0 := fun k => by
    induction k with
    | zero => rfl
    | succ k ih =>
      rw [Int.natCast_succ, hd, ih]
  have hk := hall (2 ^ b + ((ev (l ++ [x]) 0).natAbs + 1))
  have g := (grow (n := ((2 ^ b + ((ev (l ++ [x]) 0).natAbs + 1) : Nat) : Int)) hx (by push_cast; omega) l hb).2 hl
  rw [hk] at g
  push_cast at g
  omega
/-! chains of signs -/
abbrev PL := List (Int × Int)
def Part (f : Int → Int) : PL → Int → Prop
  | [], _ => False
  | [(a, s)], h => a ≤ h ∧ ∀ n, a ≤ n → n ≤ h → sg (f n) = s
  | (a, s) :: (b, t) :: r, h => (a < b ∧ s ≠ t ∧ ∀ n, a ≤ n → n < b → sg (f n) = s) ∧ Part f ((b, t) :: r) h
theorem Part.ext {f : Int → Int} : ∀ {L : PL} {h h' : Int}, Part f L h → h ≤ h' → (∀ n, h ≤ n → n ≤ h' → sg (f n) = sg (f h)) → Part f L h'
  | [], _, _, q, _, _ => q.elim
  | [(a, s)], h, h', q, e, g => by
    obtain ⟨q1, q2⟩ := q
    refine ⟨by omega, fun n h1 h2 => ?_⟩
    by_cases c : n ≤ h
    · exact q2 n h1 c
    · rw [g n (by omega) h2, q2 h q1 (Int.le_refl _)]
  | (a, s) :: (b, t) :: r, h, h', q, e, g => ⟨q.1, Part.ext (L := (b, t) :: r) q.2 e g⟩
theorem Part.snoc {f : Int → Int} {c t : Int} : ∀ {L : PL} {h h' : Int}, Part f L h → h < c → c ≤ h' → (∀ n, h ≤ n → n < c → sg (f n) = sg (f h)) → (∀ n, c ≤ n → n ≤ h' → sg (f n) = t) → sg (f h) ≠ t → Part f (L ++ [(c, t)]) h'
  | [], _, _, q, _, _, _, _, _ => q.elim
  | [(a, s)], h, h', q, e1, e2, g1, g2, ne => by
    obtain ⟨q1, q2⟩ := q
    have e := q2 h q1 (Int.le_refl _)
    refine ⟨⟨by omega, by rw [← e]; exact ne, fun n h1 h2 => ?_⟩, e2, g2⟩
    by_cases c : n ≤ h
    · exact q2 n h1 c
    · rw [g1 n (by omega) h2, e]
  | (a, s) :: (b, u) :: r, h, h', q, e1, e2, g1, g2, ne => ⟨q.1, Part.snoc (L := (b, u) :: r) q.2 e1 e2 g1 g2 ne⟩
/-- where the values first reach the number -/
def Fr (g : Int → Int) (least low high n : Int) : Prop := low < n ∧ n ≤ high ∧ least ≤ g n ∧ g (n - 1) < least
open Classical in
/-- the changes in a stretch, as the code makes them -/
noncomputable def chg (f : Int → Int) (d low high n0 n1 : Int) : PL :=
  let R : PL := if f low * d < 0 ∧ 0 ≤ f high * d then [(n0, sg (f n0))] else []
  if f low * d < 1 ∧ 1 ≤ f high * d then (if R = [] ∨ n0 ≠ n1 then R ++ [(n1, sg (f n1))] else R) else R
def Mono (f : Int → Int) (d low high : Int) : Prop := ∀ n m, low ≤ n → n ≤ m → m ≤ high → f n * d + (m - n) ≤ f m * d
theorem sg_mul {x d s : Int} (hd : d = 1 ∨ d = -1) (h : sg (x * d) = s) : sg x = s * d := by
  subst h
  rcases hd with rfl | rfl
  · simp
  · rcases sg_cases x with q | q | q <;> rcases sg_cases (x * -1) with p | p | p <;> omega
theorem chg_ok {f : Int → Int} {d low high n0 n1 : Int} (hd : d = 1 ∨ d = -1) (hm : Mono f d low high) (hl : low < high) (h0 : f low * d < 0 → 0 ≤ f high * d → Fr (fun n => f n * d) 0 low high n0) (h1 : f low * d < 1 → 1 ≤ f high * d → Fr (fun n => f n * d) 1 low high n1) {L : PL} (hL : Part f L low) : Part f (L ++ chg f d low high n0 n1) high := by
  have sP : ∀ n, 1 ≤ f n * d → sg (f n) = d := fun n h => by
    rw [sg_mul hd (sg_pos (x := f n * d) (by omega))]
    omega
  have sZ : ∀ n, f n * d = 0 → sg (f n) = 0 := fun n h => by
    rw [sg_mul hd (s := 0) (by rw [h]; rfl)]
    omega
  have sN : ∀ n, f n * d < 0 → sg (f n) = -d := fun n h => by
    rw [sg_mul hd (sg_neg (x := f n * d) (by omega))]
    omega
  have dne : d ≠ 0 := by rcases hd with h | h <;> omega
  have dnn : -d ≠ d := by rcases hd with h | h <;> omega
  unfold chg
  by_cases cN : f low * d < 0
  · by_cases cH : 0 ≤ f high * d
    · obtain ⟨a1, a2, a3, a4⟩ := h0 cN cH
      simp only at a3 a4
      simp only [cN, cH, and_self, if_true, show f low * d < 1 by omega, true_and]
      by_cases c1 : 1 ≤ f high * d
      · obtain ⟨b1, b2, b3, b4⟩ := h1 (by omega) c1
        simp only at b3 b4
        simp only [c1, if_true]
        by_cases e : n0 = n1
        · rw [if_neg (by simp [e])]
          refine hL.snoc a1 a2 (fun n q1 q2 => ?_) (fun n q1 q2 => ?_) ?_
          · have := hm n (n0 - 1) q1 (by omega) (by omega)
            rw [sN n (by omega), sN low cN]
          · have := hm n0 n (by omega) q1 q2
            rw [e] at this a3
            rw [sP n (by omega), e, sP n1 (by omega)]
          · rw [sN low cN, e, sP n1 (by omega)]
            exact dnn
        · rw [if_pos (.inr e)]
          have lt : n0 < n1 := by
            rcases Int.lt_trichotomy n0 n1 with q | q | q
            · exact q
            · exact absurd q e
            · have := hm n1 (n0 - 1) (by omega) (by omega) (by omega)
              omega
          have z : ∀ n, n0 ≤ n → n < n1 → f n * d = 0 := fun n q1 q2 => by
            have p1 := hm n0 n (by omega) q1 (by omega)
            have p2 := hm n (n1 - 1) (by omega) (by omega) (by omega)
            omega
          have P1 : Part f (L ++ [(n0, sg (f n0))]) (n1 - 1) := by
            refine hL.snoc a1 (by omega) (fun n q1 q2 => ?_) (fun n q1 q2 => ?_) ?_
            · have := hm n (n0 - 1) q1 (by omega) (by omega)
              rw [sN n (by omega), sN low cN]
            · rw [sZ n (z n q1 (by omega)), sZ n0 (z n0 (by omega) lt)]
            · rw [sN low cN, sZ n0 (z n0 (by omega) lt)]
              omega
          rw [← List.append_assoc]
          refine P1.snoc (by omega) b2 (fun n q1 q2 => by rw [show n = n1 - 1 by omega]) (fun n q1 q2 => ?_) ?_
          · have := hm n1 n (by omega) q1 q2
            rw [sP n (by omega), sP n1 b3]
          · rw [sP n1 b3, sZ (n1 - 1) (z _ (by omega) (by omega))]
            exact dne.symm
      · simp only [c1, if_false]
        refine hL.snoc a1 a2 (fun n q1 q2 => ?_) (fun n q1 q2 => ?_) ?_
        · have := hm n (n0 - 1) q1 (by omega) (by omega)
          rw [sN n (by omega), sN low cN]
        · have p1 := hm n0 n (by omega) q1 q2
          have p2 := hm n high (by omega) q2 (Int.le_refl _)
          have p3 := hm n0 high (by omega) (by omega) (Int.le_refl _)
          rw [sZ n (by omega), sZ n0 (by omega)]
        · have p3 := hm n0 high (by omega) (by omega) (Int.le_refl _)
          rw [sN low cN, sZ n0 (by omega)]
          omega
    · have c1 : ¬ 1 ≤ f high * d := by omega
      simp only [cH, c1, and_false, if_false, List.append_nil]
      refine hL.ext (by omega) fun n q1 q2 => ?_
      have := hm n high q1 q2 (Int.le_refl _)
      rw [sN n (by omega), sN low cN]
  · simp only [cN, false_and, if_false]
    by_cases cO : f low * d < 1
    · have hz : f low * d = 0 := by omega
      have p := hm low high (Int.le_refl _) (by omega) (Int.le_refl _)
      have c1 : 1 ≤ f high * d := by omega
      obtain ⟨b1, b2, b3, b4⟩ := h1 cO c1
      simp only at b3 b4
      simp only [cO, c1, and_self, if_true, true_or, List.nil_append]
      refine hL.snoc b1 b2 (fun n q1 q2 => ?_) (fun n q1 q2 => ?_) ?_
      · have p1 := hm low n (by omega) q1 (by omega)
        have p2 := hm n (n1 - 1) q1 (by omega) (by omega)
        rw [sZ n (by omega), sZ low hz]
      · have := hm n1 n (by omega) q1 q2
        rw [sP n (by omega), sP n1 b3]
      · rw [sP n1 b3, sZ low hz]
        exact dne.symm
    · simp only [cO, false_and, if_false, List.append_nil]
      refine hL.ext (by omega) fun n q1 q2 => ?_
      have := hm low n (Int.le_refl _) q1 q2
      rw [sP n (by omega), sP low (by omega)]
/-- a stretch without change -/
theorem flat_ok {f : Int → Int} {low high : Int} (hl : low ≤ high) (h : ∀ n, low ≤ n → n ≤ high → f n = f low) {L : PL} (hL : Part f L low) : Part f L high := hL.ext hl fun n a b => by rw [h n a b]
/-! a chain for all n -/
def Sig (f : Int → Int) : PL → Prop
  | [] => False
  | [(a, s)] => ∀ n, a ≤ n → sg (f n) = s
  | (a, s) :: (b, t) :: r => (a < b ∧ s ≠ t ∧ ∀ n, a ≤ n → n < b → sg (f n) = s) ∧ Sig f ((b, t) :: r)
theorem Part.sig {f : Int → Int} {h : Int} (g : ∀ n, h ≤ n → sg (f n) = sg (f h)) : ∀ {L : PL}, Part f L h → Sig f L
  | [], q => q.elim
  | [(a, s)], q => fun n h1 => by
    by_cases c : n ≤ h
    · exact q.2 n h1 c
    · rw [g n (by omega), q.2 h q.1 (Int.le_refl _)]
  | (a, s) :: (b, t) :: r, q => ⟨q.1, Part.sig (L := (b, t) :: r) g q.2⟩
end LW
namespace DL
open PySem PySem.Spec PyProof.Rows L2 RT RZ
/-- a while whose turns are counted down -/
theorem whileD_rank {fc : Ev → Sto → Ans Bool} {fb : Ev → Sto → AnsS} (Inv : Nat → Ev → Sto → Prop) (Post : Ev → Sto → Prop)
    (step : ∀ k env S, Inv k env S → (fc env S = some (.ok false, S) ∧ Post env S) ∨ ∃ j env2 S2, k = j + 1 ∧ fc env S = some (.ok true, S) ∧ fb env S = some (.nx, env2, S2) ∧ Inv j env2 S2) :
    ∀ (k n : Nat) (env : Ev) (S : Sto), Inv k env S → k < n → ∃ env' S', whileD fc fb n env S = some (.nx, env', S') ∧ Post env' S'
  | k, 0, _, _, _, h => absurd h (Nat.not_lt_zero _)
  | k, n + 1, env, S, hI, hk => by
    unfold whileD
    rcases step k env S hI with ⟨h1, h2⟩ | ⟨j, env2, S2, rfl, h1, h2, h3⟩
    · rw [h1]
      exact ⟨env, S, rfl, h2⟩
    · obtain ⟨e', S', q1, q2⟩ := whileD_rank Inv Post step j n env2 S2 h3 (by omega)
      refine ⟨e', S', ?_, q2⟩
      rw [h1, bindS_okE, if_pos rfl, h2]
      exact q1
end DL
namespace LW
open PySem PySem.Spec PyProof.Rows L2 RT RZ DL
theorem val_eq {S : Sto} {p : List Int} {n : Int} {b c : Nat} (hc : ClS S) (hb : PB b p) (hn : n.natAbs < 2 ^ c) (h0 : 0 < b) (hc0 : 0 < c) (hl : p.length ≤ 20) (h : b + (c + 1) * 20 + c ≤ 100000000) : F_value_at [.tup (p.map D.int), .int n] S = some (.ok (.int (ev p n)), S) := by
  rw [← val_ev]
  exact value_at_eq hc hb hn h0 hc0 (by omega) (by have := Nat.mul_le_mul_left (c + 1) hl; omega)
theorem sign_of_eq {S : Sto} {x : Int} (hc : ClS S) : F_sign_of [.int x] S = some (.ok (.int (sg x)), S) := by
  refine gc_pure (T := []) hc ?_ (by simp)
  simp [m_sign_of, sg]
theorem subtracted_eq {S : Sto} {a b : List Int} {q : Nat} (hc : ClS S) (hb : PB q b) (hq : 0 < q) (hq2 : q ≤ 100000) (hla : a.length ≤ 90) (hlb : b.length ≤ 90) : F_subtracted [.tup (a.map D.int), .tup (b.map D.int)] S = some (.ok (.tup ((subP a b).map D.int)), S) := by
  refine gc_pure (T := []) hc ?_ (by simp)
  have h1 := multiplied_eq (a := b) (b := [-1]) hc hb mone hq (by omega) (by omega) (by omega) (by simp)
  have h2 := added_eq (a := a) (b := mulP b [-1]) hc (by omega) (by have := mulP_len (a := b) (b := [-1]); simp at this; omega)
  simp only [List.map_cons, List.map_nil] at h1
  have := l1
  simp [m_subtracted, this, h1, h2, subP]
theorem one1 : PB 1 [1, 1] := by
  intro x hx
  simp only [List.mem_cons, List.not_mem_nil, or_false] at hx
  rcases hx with rfl | rfl <;> decide
theorem rev_get {p : List Int} {j : Nat} {x : D} (h : (p.map D.int).reverse[j]? = some x) : j < p.length ∧ x = .int (p.getD (p.length - 1 - j) 0) := by
  have hj : j < p.length := by simpa using (List.getElem?_eq_some_iff.mp h).1
  rw [List.getElem?_reverse (by simpa using hj), List.length_map, getD_map (by omega)] at h
  cases h
  exact ⟨hj, rfl⟩
set_option maxHeartbeats 1000000 in
theorem difference_eq {S : Sto} {p : List Int} {b : Nat} (hc : ClS S) (hb : PB b p) (h0 : 0 < b) (hb2 : b ≤ 50000) (hl : p.length ≤ 20) : F_difference [.tup (p.map D.int)] S = some (.ok (.tup ((diffP p).map D.int)), S) := by
  obtain ⟨env', S', h1, w, T, rfl, rfl, cT⟩ := forD_all (ok := fun _ => True) (t := .nm 2) (fb := (sAsg (.nm 1) (dCall F_added (dCons (dCall F_multiplied (dCons (dVar 1) (dCons (dCB gTup (dCons (dC (.int 1)) (dCons (dC (.int 1)) dNil))) dNil))) (dCons (dCall F_trimmed (dCons (dCB gLst (dCons (dVar 2) dNil)) dNil)) dNil)))))
    (fun j env S' => ∃ w T, env = [some (.tup (p.map D.int)), some (.tup ((shN p j).map D.int)), w] ∧ S' = S ++ T ∧ ClS (S ++ T)) (p.map D.int).reverse [some (.tup (p.map D.int)), some (.tup []), none] S (fun _ _ _ _ _ => trivial) ⟨_, [], rfl, by simp, by simpa using hc⟩ (by
      rintro j x env S' hx ⟨w, T, rfl, rfl, cT⟩
      obtain ⟨hj, rfl⟩ := rev_get hx
      have cT2 : ClS (S ++ T ++ [.lst ([p.getD (p.length - 1 - j) 0].map D.int)]) := cT.app (by simp [O.items])
      refine ⟨_, _, S ++ T ++ [.lst ([p.getD (p.length - 1 - j) 0].map D.int)], rfl, ?_, some (.int (p.getD (p.length - 1 - j) 0)), T ++ [.lst ([p.getD (p.length - 1 - j) 0].map D.int)], rfl, by simp, by simpa using cT2⟩
      have sb := shN_bits hb (by omega) j (by omega)
      have sl := shN_len p j
      have hm := multiplied_eq (a := shN p j) (b := [1, 1]) cT sb one1 (by omega) (by omega) (by omega) (by omega) (by simp)
      have ht := trimmed_eq (d := .ref (S ++ T).length) cT2 (seq_last (S ++ T) _) (by simp)
      have ha := added_eq (a := mulP (shN p j) [1, 1]) (b := trim [p.getD (p.length - 1 - j) 0]) cT2 (by have := mulP_len (a := shN p j) (b := [1, 1]); simp at this; omega) (by have := trim_len [p.getD (p.length - 1 - j) 0]; simp only [List.length_singleton] at this; omega)
      show _ = some (Out.nx, [some (D.tup (List.map D.int p)), some (D.tup (List.map D.int (plusP (mulP (shN p j) [1, 1]) (trim [p.getD (p.length - 1 - j) 0])))), some (D.int (p.getD (p.length - 1 - j) 0))], _)
      generalize S ++ T = B at *
      generalize p.getD (p.length - 1 - j) 0 = z at *
      have k1 := l1
      have k2 := l2
      simp only [List.map_cons, List.map_nil] at hm ht ha
      simp [hm, ht, ha, k1, k2])
  rw [List.length_reverse, List.length_map] at h1
  refine gc_pure (T := T) hc ?_ (by simp)
  have hs := subtracted_eq (a := shN p p.length) (b := p) cT hb h0 (by omega) (by have := shN_len p p.length; omega) (by omega)
  simp [m_difference, h1, hs, diffP]
set_option maxHeartbeats 1000000 in
theorem first_reaching_eq {S : Sto} {p : List Int} {d least low high : Int} {b c : Nat} (hc : ClS S) (hb : PB b p) (h0 : 0 < b) (hc0 : 0 < c) (hl : p.length ≤ 20) (h : b + (c + 1) * 20 + c ≤ 900000) (hd : d = 1 ∨ d = -1) (hlow : 0 ≤ low) (hlh : low < high) (hh : high < 2 ^ c) (g0 : ev p low * d < least) (g1 : least ≤ ev p high * d) :
    ∃ n, F_first_reaching [.tup (p.map D.int), .int d, .int least, .int low, .int high] S = some (.ok (.int n), S) ∧ Fr (fun n => ev p n * d) least low high n := by
  obtain ⟨env', S', h1, lo, hi, w, rfl, rfl, q1, q2, q3, q4, q5⟩ := whileD_rank (fc := (dBl (dOp gGt (dOp gSub (dVar 4) (dVar 3)) (dC (.int 1))))) (fb := (sSeq (sAsg (.nm 5) (dOp gFdiv (dOp gAdd (dVar 3) (dVar 4)) (dC (.int 2))))
    (sIf (dBl (dOp gGe (dOp gMul (dCall F_value_at (dCons (dVar 0) (dCons (dVar 5) dNil))) (dVar 1)) (dVar 2))) (sAsg (.nm 4) (dVar 5)) (sAsg (.nm 3) (dVar 5)))))
    (fun k env S' => ∃ lo hi w, env = [some (.tup (p.map D.int)), some (.int d), some (.int least), some (.int lo), some (.int hi), w] ∧ S' = S ∧ low ≤ lo ∧ lo < hi ∧ hi ≤ high ∧ ev p lo * d < least ∧ least ≤ ev p hi * d ∧ hi - lo ≤ 2 ^ k)
    (fun env S' => ∃ lo hi w, env = [some (.tup (p.map D.int)), some (.int d), some (.int least), some (.int lo), some (.int hi), w] ∧ S' = S ∧ low ≤ lo ∧ lo + 1 = hi ∧ hi ≤ high ∧ ev p lo * d < least ∧ least ≤ ev p hi * d)
    (by
      rintro k env S' ⟨lo, hi, w, rfl, rfl, q1, q2, q3, q4, q5, q6⟩
      by_cases c1 : 1 < hi - lo
      · right
        obtain ⟨j, rfl⟩ : ∃ j, k = j + 1 := by
          cases k with
          | zero => simp at q6; omega
          | succ j => exact ⟨j, rfl⟩
        have hmid : lo < (lo + hi) / 2 ∧ (lo + hi) / 2 < hi := by omega
        have hv := val_eq (n := (lo + hi) / 2) hc hb (c := c) (by have : (((lo + hi) / 2).natAbs : Int) < 2 ^ c := by omega
                                                                  exact_mod_cast this) h0 hc0 hl (by omega)
        have hdv : CDivW (lo + hi) 2 := ⟨by decide, by decide⟩
        have e : (2 : Int) ^ (j + 1) = 2 ^ j * 2 := Int.pow_succ ..
        have dd : -18446744073709551616 < d ∧ d < 18446744073709551616 := by rcases hd with rfl | rfl <;> decide
        obtain ⟨d1, d2⟩ := dd
        have hfl : gFdiv (.int (lo + hi)) (.int 2) S' = some (.int ((lo + hi) / 2), S') := E_gFdiv _ _ hdv
        generalize hmm : (lo + hi) / 2 = m at *
        by_cases c2 : least ≤ ev p m * d
        · refine ⟨j, [some (.tup (p.map D.int)), some (.int d), some (.int least), some (.int lo), some (.int m), some (.int m)], S', rfl, ?_, ?_, lo, m, _, rfl, rfl, q1, hmid.1, by omega, q4, c2, ?_⟩
          · simp [c1]
          · simp [hfl, hv, d1, d2, c2]
          · omega
        · refine ⟨j, [some (.tup (p.map D.int)), some (.int d), some (.int least), some (.int m), some (.int hi), some (.int m)], S', rfl, ?_, ?_, m, hi, _, rfl, rfl, by omega, hmid.2, q3, by omega, q5, ?_⟩
          · simp [c1]
          · simp [hfl, hv, d1, d2, c2]
          · omega
      · left
        refine ⟨?_, lo, hi, w, rfl, rfl, q1, by omega, q3, q4, q5⟩
        simp [c1])
    c fuel [some (.tup (p.map D.int)), some (.int d), some (.int least), some (.int low), some (.int high), none] S ⟨low, high, none, rfl, rfl, Int.le_refl _, hlh, Int.le_refl _, g0, g1, by omega⟩ (by have := fuel_ge; omega)
  refine ⟨hi, gc_pure (T := []) hc ?_ (by simp), by omega, q3, q5, by rw [show hi - 1 = lo by omega]; exact q4⟩
  simp [m_first_reaching, h1]
set_option maxHeartbeats 1000000 in
theorem far_end_eq {S : Sto} {p : List Int} {d low : Int} {b c : Nat} (hc : ClS S) (hb : PB b p) (h0 : 0 < b) (hc0 : 0 < c) (hl : p.length ≤ 20) (h : b + (c + 1) * 20 + c ≤ 900000) (hd : d = 1 ∨ d = -1) (hlow : 0 ≤ low) (hh : low + 2 ^ b < 2 ^ c) (hf : ∀ n : Int, 2 ^ b ≤ n → sg (ev p n) = d) :
    ∃ n, F_far_end [.tup (p.map D.int), .int d, .int low] S = some (.ok (.int n), S) ∧ low < n ∧ n ≤ low + 2 ^ b ∧ 1 ≤ ev p n * d := by
  obtain ⟨env', S', h1, j, rfl, rfl, q1, q2⟩ := whileD_rank (fc := (dBl (dOp gLt (dOp gMul (dCall F_value_at (dCons (dVar 0) (dCons (dOp gAdd (dVar 2) (dVar 3)) dNil))) (dVar 1)) (dC (.int 1))))) (fb := (sAsg (.nm 3) (dOp gMul (dVar 3) (dC (.int 2)))))
    (fun k env S' => ∃ j : Nat, env = [some (.tup (p.map D.int)), some (.int d), some (.int low), some (.int (2 ^ j))] ∧ S' = S ∧ j + k = b)
    (fun env S' => ∃ j : Nat, env = [some (.tup (p.map D.int)), some (.int d), some (.int low), some (.int (2 ^ j))] ∧ S' = S ∧ j ≤ b ∧ 1 ≤ ev p (low + 2 ^ j) * d)
    (by
      rintro k env S' ⟨j, rfl, rfl, q1⟩
      have hp : (2 : Int) ^ j ≤ 2 ^ b := by exact_mod_cast Nat.pow_le_pow_right (n := 2) (by omega) (show j ≤ b by omega)
      have hp0 : (0 : Int) < 2 ^ j := Int.pow_pos (by omega)
      have hv := val_eq (n := low + 2 ^ j) hc hb (c := c) (by have : ((low + 2 ^ j).natAbs : Int) < 2 ^ c := by omega
                                                              exact_mod_cast this) h0 hc0 hl (by omega)
      have dd : -18446744073709551616 < d ∧ d < 18446744073709551616 := by rcases hd with rfl | rfl <;> decide
      obtain ⟨d1, d2⟩ := dd
      by_cases c1 : ev p (low + 2 ^ j) * d < 1
      · right
        obtain ⟨i, rfl⟩ : ∃ i, k = i + 1 := by
          cases k with
          | zero =>
            exfalso
            have e : j = b := by omega
            subst e
            have := hf (low + 2 ^ j) (by omega)
            rcases hd with rfl | rfl <;> rcases sg_cases (ev p (low + 2 ^ j)) with q | q | q <;> omega
          | succ i => exact ⟨i, rfl⟩
        refine ⟨i, [some (.tup (p.map D.int)), some (.int d), some (.int low), some (.int (2 ^ j * 2))], S', rfl, ?_, ?_, j + 1, by rw [Int.pow_succ], rfl, by omega⟩
        · simp [hv, d1, d2, c1]
        · simp
      · left
        refine ⟨?_, j, rfl, rfl, by omega, by omega⟩
        simp [hv, d1, d2, c1])
    b fuel [some (.tup (p.map D.int)), some (.int d), some (.int low), some (.int 1)] S ⟨0, rfl, rfl, by omega⟩ (by have := fuel_ge; omega)
  have hp : (2 : Int) ^ j ≤ 2 ^ b := by exact_mod_cast Nat.pow_le_pow_right (n := 2) (by omega) (show j ≤ b by omega)
  have hp0 : (0 : Int) < 2 ^ j := Int.pow_pos (by omega)
  refine ⟨low + 2 ^ j, gc_pure (T := []) hc ?_ (by simp), by omega, by omega, q2⟩
  simp [m_far_end, h1]
def prs (L : PL) : List D := L.map fun q => D.tup [.int q.1, .int q.2]
theorem prs_app (L M : PL) : prs (L ++ M) = prs L ++ prs M := List.map_append
@[simp] theorem clBs_prs (n : Nat) : ∀ L : PL, D.clBs n (prs L) = true
  | [] => rfl
  | q :: L => by
    have := clBs_prs n L
    simp only [prs] at this ⊢
    simp [this]
theorem eqB_pair (a b c d : Int) (S : Sto) : eqB (.tup [.int a, .int b]) (.tup [.int c, .int d]) S = some (decide (a = c ∧ b = d)) := by
  have := eqB_ints [a, b] [c, d] S
  simpa using this
end LW
namespace LW
open PySem PySem.Spec PyProof.Rows L2 RT RZ DL
noncomputable abbrev stB : Ev → Sto → AnsS := (sSeq (sAsg (.nm 6) (dOp gMul (dCall F_value_at (dCons (dVar 0) (dCons (dVar 2) dNil))) (dVar 1)))
    (sIf (dAnd (dBl (dOp gLt (dVar 6) (dVar 5))) (dBl (dOp gGe (dOp gMul (dCall F_value_at (dCons (dVar 0) (dCons (dVar 3) dNil))) (dVar 1)) (dVar 5)))) (sSeq (sAsg (.nm 7) (dCall F_first_reaching (dCons (dVar 0) (dCons (dVar 1) (dCons (dVar 5) (dCons (dVar 2) (dCons (dVar 3) dNil)))))))
    (sSeq (sAsg (.nm 8) (dCall F_sign_of (dCons (dCall F_value_at (dCons (dVar 0) (dCons (dVar 7) dNil))) dNil)))
    (sIf (dOr (dNot (dTru (dVar 4))) (dBl (dOp gNe (dOp gIx (dVar 4) (dUn gNeg (dC (.int 1)))) (dCB gTup (dCons (dVar 7) (dCons (dVar 8) dNil)))))) (sExpr (dM "list" mAppend (dVar 4) (dCons (dCB gTup (dCons (dVar 7) (dCons (dVar 8) dNil))) dNil))) sNext))) sNext))
def addS (R : PL) (n s : Int) : PL := match R with
  | [] => [(n, s)]
  | (m, t) :: r => if m = n ∧ t = s then (m, t) :: r else (m, t) :: r ++ [(n, s)]
open Classical in
noncomputable def stepS (f : Int → Int) (d low high least n : Int) (R : PL) : PL := if f low * d < least ∧ least ≤ f high * d then addS R n (sg (f n)) else R
set_option maxHeartbeats 2000000 in
theorem stB_eq {S : Sto} {p : List Int} {d low high least n : Int} {b c : Nat} {R : PL} {w6 w7 w8 : Option D} (hc : ClS S) (hb : PB b p) (h0 : 0 < b) (hc0 : 0 < c) (hl : p.length ≤ 20) (h : b + (c + 1) * 20 + c ≤ 900000) (hd : d = 1 ∨ d = -1) (hlow : 0 ≤ low) (hlh : low < high) (hh : high < 2 ^ c) (hR : R.length ≤ 1)
    (hn : ev p low * d < least → least ≤ ev p high * d → F_first_reaching [.tup (p.map D.int), .int d, .int least, .int low, .int high] (S ++ [.lst (prs R)]) = some (.ok (.int n), S ++ [.lst (prs R)]) ∧ low < n ∧ n ≤ high) :
    ∃ u6 u7 u8, stB [some (.tup (p.map D.int)), some (.int d), some (.int low), some (.int high), some (.ref S.length), some (.int least), w6, w7, w8] (S ++ [.lst (prs R)]) = some (.nx, [some (.tup (p.map D.int)), some (.int d), some (.int low), some (.int high), some (.ref S.length), some (.int least), u6, u7, u8], S ++ [.lst (prs (stepS (ev p) d low high least n R))]) := by
  have cB : ClS (S ++ [.lst (prs R)]) := hc.app (by simp [O.items])
  have dd : -18446744073709551616 < d ∧ d < 18446744073709551616 := by rcases hd with rfl | rfl <;> decide
  obtain ⟨d1, d2⟩ := dd
  have nb : ∀ x : Int, 0 ≤ x → x ≤ high → x.natAbs < 2 ^ c := fun x a e => by
    have : (x.natAbs : Int) < 2 ^ c := by omega
    exact_mod_cast this
  have hv1 := val_eq (n := low) cB hb (nb low hlow (by omega)) h0 hc0 hl (by omega)
  have hv2 := val_eq (n := high) cB hb (nb high (by omega) (by omega)) h0 hc0 hl (by omega)
  have k2 := l2
  have k1 := l1
  unfold stepS
  by_cases c1 : ev p low * d < least
  · by_cases c2 : least ≤ ev p high * d
    · obtain ⟨hn, n1, n2⟩ := hn c1 c2
      have hv3 := val_eq (n := n) cB hb (nb n (by omega) n2) h0 hc0 hl (by omega)
      have hs := sign_of_eq (x := ev p n) cB
      rw [if_pos ⟨c1, c2⟩]
      refine ⟨some (.int (ev p low * d)), some (.int n), some (.int (sg (ev p n))), ?_⟩
      match R, hR with
      | [], _ =>
        simp only [prs, List.map_nil, addS, List.map_cons] at hv1 hv2 hv3 hs hn ⊢
        have z : (0 : Nat) < sizeLine := by have := line_big; omega
        simp [stB, hv1, hv2, hv3, hs, hn, d1, d2, c1, c2, k2, z]
      | [(m, t)], _ =>
        simp only [prs, List.map_nil, addS, List.map_cons] at hv1 hv2 hv3 hs hn ⊢
        have z : (1 : Nat) < sizeLine := by have := line_big; omega
        have a1 : atI [D.tup [.int m, .int t]] (-1) = some (.tup [.int m, .int t]) := rfl
        by_cases e : m = n ∧ t = sg (ev p n)
        · rw [if_pos e]
          obtain ⟨rfl, rfl⟩ := e
          simp [stB, hv1, hv2, hv3, hs, hn, d1, d2, c1, c2, k2, z, a1, eqB_pair]
        · rw [if_neg e]
          simp [stB, hv1, hv2, hv3, hs, hn, d1, d2, c1, c2, k2, z, a1, eqB_pair, e]
    · rw [if_neg (fun q => c2 q.2)]
      refine ⟨some (.int (ev p low * d)), w7, w8, ?_⟩
      simp [stB, hv1, hv2, d1, d2, c1, c2]
  · rw [if_neg (fun q => c1 q.1)]
    refine ⟨some (.int (ev p low * d)), w7, w8, ?_⟩
    simp [stB, hv1, d1, d2, c1]
theorem chg_step (f : Int → Int) (d low high n0 n1 : Int) : chg f d low high n0 n1 = stepS f d low high 1 n1 (stepS f d low high 0 n0 []) := by
  unfold chg stepS
  by_cases c0 : f low * d < 0 ∧ 0 ≤ f high * d <;> by_cases c1 : f low * d < 1 ∧ 1 ≤ f high * d <;> simp only [c0, c1, and_self, if_true, if_false, addS]
  · by_cases e : n0 = n1
    · subst e
      simp
    · simp [e]
  · simp
def R3 (A B : PL) : Nat → PL
  | 0 => []
  | 1 => A
  | _ => B
set_option maxHeartbeats 2000000 in
theorem stretch_eq {S : Sto} {p : List Int} {d low high : Int} {b c : Nat} (hc : ClS S) (hb : PB b p) (h0 : 0 < b) (hc0 : 0 < c) (hl : p.length ≤ 20) (h : b + (c + 1) * 20 + c ≤ 900000) (hd : d = 1 ∨ d = -1) (hlow : 0 ≤ low) (hlh : low < high) (hh : high < 2 ^ c) :
    ∃ n0 n1, F_stretch_changes [.tup (p.map D.int), .int d, .int low, .int high] S = some (.ok (.ref S.length), S ++ [.lst (prs (chg (ev p) d low high n0 n1))]) ∧ (ev p low * d < 0 → 0 ≤ ev p high * d → Fr (fun n => ev p n * d) 0 low high n0) ∧ (ev p low * d < 1 → 1 ≤ ev p high * d → Fr (fun n => ev p n * d) 1 low high n1) := by
  have key : ∀ (least : Int) (R : PL), ∃ n, ev p low * d < least → least ≤ ev p high * d → F_first_reaching [.tup (p.map D.int), .int d, .int least, .int low, .int high] (S ++ [.lst (prs R)]) = some (.ok (.int n), S ++ [.lst (prs R)]) ∧ Fr (fun n => ev p n * d) least low high n := fun least R => by
    by_cases g : ev p low * d < least ∧ least ≤ ev p high * d
    · obtain ⟨n, q, r⟩ := first_reaching_eq (S := S ++ [.lst (prs R)]) (hc.app (by simp [O.items])) hb h0 hc0 hl h hd hlow hlh hh g.1 g.2
      exact ⟨n, fun _ _ => ⟨q, r⟩⟩
    · exact ⟨0, fun a b => absurd ⟨a, b⟩ g⟩
  obtain ⟨n0, k0⟩ := key 0 []
  obtain ⟨n1, k1⟩ := key 1 (stepS (ev p) d low high 0 n0 [])
  have l0 : (stepS (ev p) d low high 0 n0 []).length ≤ 1 := by
    unfold stepS
    split <;> simp [addS]
  refine ⟨n0, n1, ?_, fun a b => (k0 a b).2, fun a b => (k1 a b).2⟩
  rw [chg_step]
  obtain ⟨env', S', h1, w5, w6, w7, w8, rfl, hS⟩ := forD_all (ok := fun _ => True) (t := .nm 5) (fb := stB)
    (fun j env S' => ∃ w5 w6 w7 w8, env = [some (.tup (p.map D.int)), some (.int d), some (.int low), some (.int high), some (.ref S.length), w5, w6, w7, w8] ∧ S' = S ++ [.lst (prs (R3 (stepS (ev p) d low high 0 n0 []) (stepS (ev p) d low high 1 n1 (stepS (ev p) d low high 0 n0 [])) j))]) [.int 0, .int 1] [some (.tup (p.map D.int)), some (.int d), some (.int low), some (.int high), some (.ref S.length), none, none, none, none] (S ++ [.lst []]) (fun _ _ _ _ _ => trivial) ⟨_, _, _, _, rfl, rfl⟩ (by
      rintro j x env S' hx ⟨w5, w6, w7, w8, rfl, rfl⟩
      match j, hx with
      | 0, hx =>
        cases hx
        obtain ⟨u6, u7, u8, q⟩ := stB_eq (R := []) (w6 := w6) (w7 := w7) (w8 := w8) hc hb h0 hc0 hl h hd hlow hlh hh (by simp) (fun a b => ⟨(k0 a b).1, (k0 a b).2.1, (k0 a b).2.2.1⟩)
        exact ⟨_, _, _, rfl, q, _, _, _, _, rfl, rfl⟩
      | 1, hx =>
        cases hx
        obtain ⟨u6, u7, u8, q⟩ := stB_eq (R := stepS (ev p) d low high 0 n0 []) (w6 := w6) (w7 := w7) (w8 := w8) hc hb h0 hc0 hl h hd hlow hlh hh l0 (fun a b => ⟨(k1 a b).1, (k1 a b).2.1, (k1 a b).2.2.1⟩)
        exact ⟨_, _, _, rfl, q, _, _, _, _, rfl, rfl⟩
      | j + 2, hx => simp at hx)
  change S' = S ++ [.lst (prs (stepS (ev p) d low high 1 n1 (stepS (ev p) d low high 0 n0 [])))] at hS
  subst hS
  refine gc_keep ?_ (by simp)
  have dne : ¬ d = 0 := by rcases hd with h | h <;> omega
  have k2 := l2
  simp [m_stretch_changes, dne, k2, h1]
theorem stretch_zero {S : Sto} {p : List Int} {low high : Int} : F_stretch_changes [.tup (p.map D.int), .int 0, .int low, .int high] S = some (.ok (.ref S.length), S ++ [.lst (prs [])]) := by
  refine gc_keep ?_ (by simp)
  simp [m_stretch_changes, prs]
end LW
namespace LW
open PySem PySem.Spec PyProof.Rows L2 RT RZ DL
theorem Sig.get {f : Int → Int} : ∀ {L : PL} {j : Nat} {a s : Int}, Sig f L → L[j]? = some (a, s) → (∀ b t, L[j + 1]? = some (b, t) → a < b ∧ s ≠ t ∧ ∀ n, a ≤ n → n < b → sg (f n) = s) ∧ (j + 1 = L.length → ∀ n, a ≤ n → sg (f n) = s)
  | [], _, _, _, q, _ => q.elim
  | [(a, s)], j, a', s', q, h => by
    cases j with
    | zero =>
      cases h
      exact ⟨fun b t h => by simp at h, fun _ => q⟩
    | succ j => simp at h
  | (a, s) :: (b, t) :: r, j, a', s', q, h => by
    cases j with
    | zero =>
      cases h
      refine ⟨fun b' t' h => ?_, fun h => by simp at h⟩
      cases h
      exact q.1
    | succ j =>
      obtain ⟨h1, h2⟩ := Sig.get (L := (b, t) :: r) q.2 (by simpa using h)
      exact ⟨fun b' t' h => h1 b' t' (by simpa using h), fun h => h2 (by simpa using h)⟩
theorem Sig.here {f : Int → Int} {L : PL} {j : Nat} {a s : Int} (h : Sig f L) (e : L[j]? = some (a, s)) : sg (f a) = s := by
  obtain ⟨h1, h2⟩ := h.get e
  by_cases c : j + 1 < L.length
  · have := h1 L[j + 1].1 L[j + 1].2 (by rw [List.getElem?_eq_getElem c])
    exact this.2.2 a (Int.le_refl _) this.1
  · have := (List.getElem?_eq_some_iff.mp e).1
    exact h2 (by omega) a (Int.le_refl _)
theorem mono_of {p : List Int} {d low high : Int} (hd : d = 1 ∨ d = -1) (h : ∀ n, low ≤ n → n < high → sg (ev (diffP p) n) = d) : Mono (ev p) d low high := by
  have key : ∀ (k : Nat) (n : Int), low ≤ n → n + k ≤ high → ev p n * d + k ≤ ev p (n + k) * d := fun k => by
    induction k with
    | zero =>
      intro n _ _
      simp
    | succ k ih =>
      intro n h1 h2
      have q1 := ih n h1 (by push_cast at h2; omega)
      have q2 := h (n + k) (by omega) (by push_cast at h2; omega)
      rw [ev_diff] at q2
      rw [show n + ((k + 1 : Nat) : Int) = n + k + 1 by push_cast; omega]
      push_cast
      rcases hd with rfl | rfl
      · rcases sg_cases (ev p (n + k + 1) - ev p (n + k)) with q | q | q <;> omega
      · rcases sg_cases (ev p (n + k + 1) - ev p (n + k)) with q | q | q <;> omega
  intro n m h1 h2 h3
  have := key (m - n).toNat n h1 (by omega)
  rw [show (((m - n).toNat : Nat) : Int) = m - n by omega, show n + (m - n) = m by omega] at this
  exact this
theorem flat_of {p : List Int} {low high : Int} (h : ∀ n, low ≤ n → n < high → sg (ev (diffP p) n) = 0) : ∀ n, low ≤ n → n ≤ high → ev p n = ev p low := by
  have key : ∀ (k : Nat), low + k ≤ high → ev p (low + k) = ev p low := fun k => by
    induction k with
    | zero =>
      intro _
      simp
    | succ k ih =>
      intro h2
      have q1 := ih (by push_cast at h2; omega)
      have q2 := h (low + k) (by omega) (by push_cast at h2; omega)
      rw [ev_diff] at q2
      rw [show low + ((k + 1 : Nat) : Int) = low + k + 1 by push_cast; omega]
      rcases sg_cases (ev p (low + k + 1) - ev p (low + k)) with q | q | q <;> omega
  intro n h1 h2
  have := key (n - low).toNat (by omega)
  rw [show (((n - low).toNat : Nat) : Int) = n - low by omega, show low + (n - low) = n by omega] at this
  exact this
theorem chg_mem {f : Int → Int} {d low high n0 n1 : Int} (h0 : f low * d < 0 → 0 ≤ f high * d → low < n0 ∧ n0 ≤ high) (h1 : f low * d < 1 → 1 ≤ f high * d → low < n1 ∧ n1 ≤ high) : (∀ q ∈ chg f d low high n0 n1, low < q.1 ∧ q.1 ≤ high) ∧ (chg f d low high n0 n1).length ≤ 2 := by
  unfold chg
  by_cases c0 : f low * d < 0 ∧ 0 ≤ f high * d <;> by_cases c1 : f low * d < 1 ∧ 1 ≤ f high * d <;> simp only [c0, c1, and_self, if_true, if_false]
  · have a0 := h0 c0.1 c0.2
    have a1 := h1 c1.1 c1.2
    split
    · refine ⟨fun q hq => ?_, by simp⟩
      simp at hq
      rcases hq with rfl | rfl
      · exact a0
      · exact a1
    · refine ⟨fun q hq => ?_, by simp⟩
      simp at hq
      subst hq
      exact a0
  · have a0 := h0 c0.1 c0.2
    refine ⟨fun q hq => ?_, by simp⟩
    simp at hq
    subst hq
    exact a0
  · have a1 := h1 c1.1 c1.2
    rw [if_pos (.inl trivial)]
    refine ⟨fun q hq => ?_, by simp⟩
    simp at hq
    subst hq
    exact a1
  · simp
theorem far_dir {p : List Int} {b : Nat} {d low : Int} (ht : trim p = p) (hp : p ≠ []) (hb : PB b p) (hd : d = 1 ∨ d = -1) (h : ∀ n, low ≤ n → sg (ev (diffP p) n) = d) : ∀ n : Int, 2 ^ b ≤ n → sg (ev p n) = d := by
  obtain ⟨s, hs, h2⟩ := far ht hp hb
  suffices e : s = d by rw [← e]; exact h2
  obtain ⟨m, hm⟩ : ∃ m : Int, m = max low (2 ^ b) := ⟨_, rfl⟩
  have h3 := mono_of (low := low) (high := m + ((ev p m).natAbs + 1)) hd (fun n a _ => h n a) m (m + ((ev p m).natAbs + 1)) (by omega) (by omega) (Int.le_refl _)
  have h4 := h2 (m + ((ev p m).natAbs + 1)) (by omega)
  generalize ev p (m + ((ev p m).natAbs + 1)) = y at *
  rcases hd with rfl | rfl <;> rcases hs with rfl | rfl <;> rcases sg_cases y with q | q | q <;> omega
theorem enumP_get {L : PL} {j : Nat} {x : D} (h : (enumD (prs L))[j]? = some x) : ∃ a s, L[j]? = some (a, s) ∧ x = .tup [.int j, .tup [.int a, .int s]] := by
  unfold enumD prs at h
  rw [List.getElem?_map, List.getElem?_zipIdx, List.getElem?_map] at h
  cases e : L[j]? with
  | none =>
    rw [e] at h
    cases h
  | some q =>
    rw [e] at h
    simp at h
    exact ⟨q.1, q.2, rfl, h.symm⟩
theorem prs_at {L : PL} {j : Nat} {a s : Int} (h : L[j]? = some (a, s)) : atI (prs L) (j : Int) = some (.tup [.int a, .int s]) := atI_of (k := j) rfl (by simp [prs, h])
theorem prs_len (L : PL) : (prs L).length = L.length := by simp [prs]
theorem one_stretch {B : Sto} {p : List Int} {d low high : Int} {b c : Nat} {L : PL} (hc : ClS B) (hb : PB b p) (h0 : 0 < b) (hc0 : 0 < c) (hl : p.length ≤ 20) (h : b + (c + 1) * 20 + c ≤ 900000) (hd : d = 1 ∨ d = 0 ∨ d = -1) (hlow : 0 ≤ low) (hlh : low < high) (hh : high < 2 ^ c) (hs : ∀ n, low ≤ n → n < high → sg (ev (diffP p) n) = d) (hL : Part (ev p) L low) :
    ∃ R, F_stretch_changes [.tup (p.map D.int), .int d, .int low, .int high] B = some (.ok (.ref B.length), B ++ [.lst (prs R)]) ∧ Part (ev p) (L ++ R) high ∧ (∀ q ∈ R, low < q.1 ∧ q.1 ≤ high) ∧ R.length ≤ 2 := by
  by_cases hz : d = 0
  · subst hz
    exact ⟨[], stretch_zero, by rw [List.append_nil]; exact flat_ok (by omega) (flat_of hs) hL, by simp, by simp⟩
  · have hd2 : d = 1 ∨ d = -1 := by omega
    obtain ⟨n0, n1, q1, q2, q3⟩ := stretch_eq hc hb h0 hc0 hl h hd2 hlow hlh hh
    obtain ⟨m1, m2⟩ := chg_mem (f := ev p) (d := d) (low := low) (high := high) (n0 := n0) (n1 := n1) (fun a b => ⟨(q2 a b).1, (q2 a b).2.1⟩) (fun a b => ⟨(q3 a b).1, (q3 a b).2.1⟩)
    exact ⟨_, q1, chg_ok hd2 (mono_of hd2 hs) hlh q2 q3 hL, m1, m2⟩
end LW
namespace LW
open PySem PySem.Spec PyProof.Rows L2 RT RZ DL
theorem short_ev {p : List Int} (h : p.length < 2) (n : Int) : ev p n = ev p 0 := by
  match p, h with
  | [], _ => rfl
  | [c], _ => simp [ev]
  | _ :: _ :: _, h =>
    simp only [List.length_cons] at h
    omega
structure SigOk (p : List Int) (M : Nat) (L : PL) : Prop where
  sig : Sig (ev p) L
  hd : ∃ s r, L = (0, s) :: r
  pos : ∀ q ∈ L, 0 ≤ q.1 ∧ q.1 < 2 ^ (M + p.length)
  len : L.length < 2 ^ (p.length + 1)
noncomputable abbrev sgB (f_signs : Mir) : Ev → Sto → AnsS := (sSeq (sIf (dBl (dOp gLt (dOp gAdd (dVar 3) (dC (.int 1))) (dCB cLen (dCons (dVar 2) dNil)))) (sAsg (.nm 6) (dOp gIx (dOp gIx (dVar 2) (dOp gAdd (dVar 3) (dC (.int 1)))) (dC (.int 0)))) (sAsg (.nm 6) (dCall F_far_end (dCons (dVar 0) (dCons (dVar 5) (dCons (dVar 4) dNil))))))
    (sAsg (.nm 1) (dOp gAdd (dVar 1) (dCall F_stretch_changes (dCons (dVar 0) (dCons (dVar 5) (dCons (dVar 4) (dCons (dVar 6) dNil))))))))
theorem pw2 {a b : Nat} (h : a ≤ b) : (2 : Int) ^ a ≤ 2 ^ b := by exact_mod_cast Nat.pow_le_pow_right (n := 2) (by omega) h
theorem pw2d {a b : Nat} (h : a < b) : (2 : Int) ^ a + 2 ^ a ≤ 2 ^ b := by
  have := pw2 (show a + 1 ≤ b from h)
  rw [Int.pow_succ] at this
  omega
set_option maxHeartbeats 4000000 in
theorem signs_eq {M : Nat} (hM : M ≤ 9000) : ∀ (m : Nat) (p : List Int) (b : Nat) (S : Sto), ClS S → trim p = p → p.length ≤ m + 1 → p.length ≤ 17 → PB b p → 0 < b → b + 300 * p.length ≤ M → ∃ L : PL, Fn_signs (m + 1) [.tup (p.map D.int)] S = some (.ok (.tup (prs L)), S) ∧ SigOk p M L := by
  intro m
  induction m with
  | zero =>
    intro p b S hc ht hp hp2 hb h0 hbM
    have hs := short_ev (p := p) (by omega)
    refine ⟨[(0, sg (ev p 0))], ?_, fun n _ => by rw [hs n], ⟨_, _, rfl⟩, ?_, ?_⟩
    · refine gc_pure (T := [.lst (prs [(0, sg (ev p 0))])]) hc ?_ (by simp)
      have hv := val_eq (n := 0) (c := 1) hc hb (by decide) h0 (by omega) (by omega) (by omega)
      have hg := sign_of_eq (x := ev p 0) hc
      have k1 := l1
      have k2 := l2
      have : (p.length : Int) < 2 := by omega
      simp [m_signs, hv, hg, k1, k2, this, prs]
    · intro q hq
      simp only [List.mem_singleton] at hq
      subst hq
      exact ⟨Int.le_refl _, Int.pow_pos (by omega)⟩
    · have := Nat.two_pow_pos p.length
      rw [Nat.pow_succ]
      simp
      omega
  | succ m ih =>
    intro p b S hc ht hp hp2 hb h0 hbM
    have hv := val_eq (n := 0) (c := 1) hc hb (by decide) h0 (by omega) (by omega) (by omega)
    have hg := sign_of_eq (x := ev p 0) hc
    have k1 := l1
    have k2 := l2
    by_cases hlen : p.length < 2
    · have hs := short_ev hlen
      refine ⟨[(0, sg (ev p 0))], ?_, fun n _ => by rw [hs n], ⟨_, _, rfl⟩, ?_, ?_⟩
      · refine gc_pure (T := [.lst (prs [(0, sg (ev p 0))])]) hc ?_ (by simp)
        have hlen : (p.length : Int) < 2 := by omega
        simp [m_signs, hv, hg, k1, k2, hlen, prs]
      · intro q hq
        simp only [List.mem_singleton] at hq
        subst hq
        exact ⟨Int.le_refl _, Int.pow_pos (by omega)⟩
      · have := Nat.two_pow_pos p.length
        rw [Nat.pow_succ]
        simp
        omega
    have dl := diff_len (p := p) (by omega)
    have c1 : ClS (S ++ [.lst (prs [(0, sg (ev p 0))])]) := hc.app (by simp [O.items])
    have hdif := difference_eq c1 hb h0 (by omega) (by omega)
    have dt : trim (diffP p) = diffP p := plusP_trim _ _
    have db := diff_bits hb (by omega)
    obtain ⟨L', e1, SO⟩ := ih (diffP p) (b + 300) (S ++ [.lst (prs [(0, sg (ev p 0))])]) c1 dt (by omega) (by omega) db (by omega) (by omega)
    have hne : p ≠ [] := by
      rintro rfl
      simp at hlen
    have dne := diff_ne ht (by omega) hb
    obtain ⟨s0, r0, hL0⟩ := SO.hd
    have dirs : ∀ {j : Nat} {a s : Int}, L'[j]? = some (a, s) → (s = 1 ∨ s = 0 ∨ s = -1) ∧ 0 ≤ a ∧ a < 2 ^ (M + p.length - 1) := fun {j a s} e => by
      have q := SO.sig.here e
      have q2 := SO.pos (a, s) (List.mem_of_getElem? e)
      have q3 := pw2 (show M + (diffP p).length ≤ M + p.length - 1 by omega)
      refine ⟨?_, q2.1, by omega⟩
      rcases sg_cases (ev (diffP p) a) with z | z | z <;> omega
    have b1 : (2 : Int) ^ b ≤ 2 ^ (M + p.length - 1) := pw2 (by omega)
    have b2 : (2 : Int) ^ (M + p.length - 1) + 2 ^ (M + p.length - 1) ≤ 2 ^ (M + p.length) := pw2d (by omega)
    have b3 : (2 : Int) ^ (M + p.length) ≤ 2 ^ (M + 20) := pw2 (by omega)
    have k17 : 2 * (2 ^ ((diffP p).length + 1)) ≤ 2 ^ (p.length + 1) := by
      have := Nat.pow_le_pow_right (n := 2) (by omega) (show (diffP p).length + 1 + 1 ≤ p.length + 1 by omega)
      rw [Nat.pow_succ] at this
      omega
    have k18 : 2 ^ (p.length + 1) ≤ 2 ^ 18 := Nat.pow_le_pow_right (by omega) (by omega)
    have lenb := SO.len
    have key := forD_all (ok := fun _ => True) (t := (.tp [(.nm 3), (.tp [(.nm 4), (.nm 5)])])) (fb := sgB (Fn_signs (m + 1)))
      (fun j env S' => ∃ (w3 w4 w5 w6 : Option D) (r : Nat) (T : Sto) (L : PL) (h : Int), env = [some (.tup (p.map D.int)), some (.ref r), some (.tup (prs L')), w3, w4, w5, w6] ∧ S' = S ++ T ∧ ClS (S ++ T) ∧ (S ++ T)[r]? = some (.lst (prs L)) ∧ Part (ev p) L h ∧ (∀ a s, L'[j]? = some (a, s) → h = a) ∧ (j = L'.length → ∀ n, h ≤ n → sg (ev p n) = sg (ev p h)) ∧ (∃ s r, L = (0, s) :: r) ∧ (∀ q ∈ L, 0 ≤ q.1 ∧ q.1 < 2 ^ (M + p.length)) ∧ L.length ≤ 1 + 2 * j)
      (enumD (prs L')) [some (.tup (p.map D.int)), some (.ref S.length), some (.tup (prs L')), none, none, none, none] (S ++ [.lst (prs [(0, sg (ev p 0))])]) (fun _ _ _ _ _ => trivial)
      ⟨none, none, none, none, S.length, [.lst (prs [(0, sg (ev p 0))])], [(0, sg (ev p 0))], 0, rfl, rfl, c1, by simp, ⟨Int.le_refl _, fun n h1 h2 => by rw [show n = 0 by omega]⟩, fun a s e => by rw [hL0] at e; cases e; rfl, fun e => by rw [hL0] at e; simp at e, ⟨_, _, rfl⟩, by
        intro q hq
        simp only [List.mem_singleton] at hq
        subst hq
        exact ⟨Int.le_refl _, Int.pow_pos (by omega)⟩, by simp⟩ (by
        rintro j x env S' hx ⟨w3, w4, w5, w6, r, T, L, h, rfl, rfl, cT, hr, hP, hh, -, hd, hpos, hlen'⟩
        obtain ⟨a, s, eL, rfl⟩ := enumP_get hx
        have := hh a s eL
        subst this
        obtain ⟨sd, a0, a1⟩ := dirs eL
        have jl := (List.getElem?_eq_some_iff.mp eL).1
        obtain ⟨g1, g2⟩ := SO.sig.get eL
        -- the far end of the stretch
        obtain ⟨high, hlt, hhi, hst, hEv, hnx, hlast⟩ : ∃ high, h < high ∧ high < 2 ^ (M + p.length) ∧ (∀ n, h ≤ n → n < high → sg (ev (diffP p) n) = s) ∧
            ((sIf (dBl (dOp gLt (dOp gAdd (dVar 3) (dC (.int 1))) (dCB cLen (dCons (dVar 2) dNil)))) (sAsg (.nm 6) (dOp gIx (dOp gIx (dVar 2) (dOp gAdd (dVar 3) (dC (.int 1)))) (dC (.int 0)))) (sAsg (.nm 6) (dCall F_far_end (dCons (dVar 0) (dCons (dVar 5) (dCons (dVar 4) dNil)))))) [some (.tup (p.map D.int)), some (.ref r), some (.tup (prs L')), some (.int j), some (.int h), some (.int s), w6] (S ++ T) = some (.nx, [some (.tup (p.map D.int)), some (.ref r), some (.tup (prs L')), some (.int j), some (.int h), some (.int s), some (.int high)], S ++ T)) ∧ (∀ a' s', L'[j + 1]? = some (a', s') → high = a') ∧ (j + 1 = L'.length → ∀ n, high ≤ n → sg (ev p n) = sg (ev p high)) := by
          by_cases cj : j + 1 < L'.length
          · have e2 : L'[j + 1]? = some (L'[j + 1].1, L'[j + 1].2) := by rw [List.getElem?_eq_getElem cj]
            obtain ⟨q1, q2, q3⟩ := g1 _ _ e2
            obtain ⟨-, -, q5⟩ := dirs e2
            have hat := prs_at e2
            push_cast at hat
            generalize L'[j + 1].1 = z at *
            generalize L'[j + 1].2 = z2 at *
            refine ⟨z, q1, by omega, q3, ?_, fun a' s' e3 => ?_, fun e3 => by omega⟩
            · have a0 : atI [D.int z, .int z2] 0 = some (.int z) := rfl
              have cj2 : (j : Int) + 1 < L'.length := by omega
              simp [prs_len, cj2, hat, a0]
            · rw [e2] at e3
              cases e3
              rfl
          · have q := g2 (by omega)
            obtain ⟨sf, hsf, hfar⟩ := far dt dne db
            have e3 : s = sf := by
              have := hfar (max h (2 ^ (b + 300))) (by omega)
              rw [q _ (by omega)] at this
              exact this
            subst e3
            have hfd := far_dir ht hne hb hsf q
            obtain ⟨n, f1, f2, f3, f4⟩ := far_end_eq (c := M + 20) cT hb h0 (by omega) (by omega) (by omega) hsf a0 (by omega) hfd
            refine ⟨n, f2, by omega, fun n' h1 _ => q n' h1, ?_, fun a' s' e3 => ?_, fun _ n' hn => ?_⟩
            · have cj2 : ¬ (j : Int) + 1 < L'.length := by omega
              simp [prs_len, cj2, f1]
            · have := (List.getElem?_eq_some_iff.mp e3).1
              omega
            · have mm := mono_of (low := h) (high := n') hsf (fun k a _ => q k a) n n' (by omega) hn (Int.le_refl _)
              have p1 : sg (ev p n' * s) = 1 := sg_pos (by omega)
              have p2 : sg (ev p n * s) = 1 := sg_pos (by omega)
              rw [sg_mul hsf p1, sg_mul hsf p2]
        obtain ⟨R, r1, r2, r3, r4⟩ := one_stretch (c := M + 20) cT hb h0 (by omega) (by omega) (by omega) sd a0 hlt (by omega) hst hP
        have rl : r < (S ++ T).length := lst_lt hr
        have cT2 : ClS (S ++ (T ++ [.lst (prs R), .lst (prs (L ++ R))])) := by
          rw [← List.append_assoc]
          exact cT.app (by simp [O.items])
        have hadd : gAdd (.ref r) (.ref (S ++ T).length) (S ++ T ++ [.lst (prs R)]) = some (.ref ((S ++ T).length + 1), S ++ (T ++ [.lst (prs R), .lst (prs (L ++ R))])) := by
          unfold gAdd
          have sz := line_big
          simp only [get_old hr, get_last, prs_len]
          rw [if_pos (by have := line_big; omega), prs_app]
          simp [Nat.add_assoc]
        refine ⟨_, _, S ++ (T ++ [.lst (prs R), .lst (prs (L ++ R))]), rfl, ?_, some (.int j), some (.int h), some (.int s), some (.int high), (S ++ T).length + 1, T ++ [.lst (prs R), .lst (prs (L ++ R))], L ++ R, high, rfl, rfl, cT2, ?_, r2, hnx, hlast, ?_, ?_, ?_⟩
        · show sgB _ [some (.tup (p.map D.int)), some (.ref r), some (.tup (prs L')), some (.int j), some (.int h), some (.int s), w6] (S ++ T) = _
          generalize S ++ (T ++ [.lst (prs R), .lst (prs (L ++ R))]) = Z at *
          generalize S ++ T = B at *
          simp [-E_sIf, sgB, hEv, r1, hadd]
        · rw [← List.append_assoc, get_app]
          rfl
        · obtain ⟨s, r, rfl⟩ := hd
          exact ⟨s, r ++ R, rfl⟩
        · intro q hq
          rcases List.mem_append.mp hq with hq | hq
          · exact hpos q hq
          · have := r3 q hq
            omega
        · rw [List.length_append]
          omega)
    obtain ⟨env', S', h1, w3, w4, w5, w6, r, T, L, h, rfl, rfl, cT, hr, hP, -, hlast, hd, hpos, hl2⟩ := key
    have el : (enumD (prs L')).length = L'.length := by simp [enumD, prs]
    rw [el] at hlast hl2
    refine ⟨L, ?_, hP.sig (hlast rfl), hd, hpos, by omega⟩
    refine gc_pure (T := T) hc ?_ (by simp)
    have hq : seqOf (.ref r) (S ++ T) = some (prs L) := seq_lst hr
    simp only [prs, List.map_cons, List.map_nil] at hdif e1 h1 hq ⊢
    have hlen : ¬ (p.length : Int) < 2 := by omega
    simp [m_signs, hv, hg, k1, k2, hlen, hdif, e1, h1, hq]
end LW
namespace LW
open PySem PySem.Spec PyProof.Rows L2 RT RZ DL
theorem law_sign_eq {S : Sto} {x : Int} (hc : ClS S) : F__law_sign [.int x] S = some (.ok (.int (sg x)), S) := by
  refine gc_pure (T := []) hc ?_ (by simp)
  simp [m__law_sign, sg]
@[irreducible] def XB : Nat := 1048579
theorem xb : XB = 1048579 := by unfold XB; rfl
theorem bits_nat {z : Int} (h : Builtin.Int.intBits z ≤ 1048576) : (z.natAbs : Int) < 2 ^ (XB - 1) := by
  have : z.natAbs < 2 ^ (XB - 1) := by
    unfold Builtin.Int.intBits at h
    split at h
    · rename_i h0
      rw [beq_iff_eq.mp h0]
      exact Nat.two_pow_pos _
    · have h1 := Nat.lt_log2_self (n := z.natAbs)
      exact Nat.lt_of_lt_of_le h1 (Nat.pow_le_pow_right (by omega) (by rw [xb]; omega))
  exact_mod_cast this
theorem lval_eq {S : Sto} {p : List Int} {n : Int} {c : Nat} (hc : ClS S) (hb : PB 400 p) (hn : n.natAbs < 2 ^ c) (hc0 : 0 < c) (hl : p.length ≤ 17) (h : c ≤ 2000000) : F__law_value [.tup (p.map D.int), .int n] S = some (.ok (.int (ev p n)), S) := by
  rw [← val_ev]
  exact law_value_eq hc hb hn (by omega) hc0 (by omega) (by have := Nat.mul_le_mul_left (c + 1) hl; omega)
/-- from some n on -/
structure Last (f : Int → Int) (n s : Int) : Prop where
  pos : 0 ≤ n
  all : ∀ m, n ≤ m → sg (f m) = s
  bef : n = 0 ∨ sg (f (n - 1)) ≠ s
theorem Sig.last {f : Int → Int} : ∀ {r : PL} {a s : Int}, Sig f ((a, s) :: r) → ∃ L' n t, (a, s) :: r = L' ++ [(n, t)] ∧ (∀ m, n ≤ m → sg (f m) = t) ∧ (n = a ∨ (a < n ∧ sg (f (n - 1)) ≠ t))
  | [], a, s, h => ⟨[], a, s, rfl, h, .inl rfl⟩
  | (b, t) :: r, a, s, h => by
    obtain ⟨⟨h1, h2, h3⟩, h4⟩ := h
    obtain ⟨L', n, u, e, q1, q2⟩ := Sig.last h4
    refine ⟨(a, s) :: L', n, u, by rw [e]; rfl, q1, ?_⟩
    rcases q2 with rfl | ⟨q2, q3⟩
    · right
      refine ⟨h1, ?_⟩
      have e2 : u = t := by
        rw [← q1 n (Int.le_refl _)]
        exact Sig.here h4 (j := 0) rfl
      rw [e2, h3 (n - 1) (by omega) (by omega)]
      exact h2
    · exact .inr ⟨by omega, q3⟩
theorem Last.of {f : Int → Int} {L : PL} (h : Sig f L) (hd : ∃ s r, L = (0, s) :: r) : ∃ L' n t, L = L' ++ [(n, t)] ∧ Last f n t := by
  obtain ⟨s, r, rfl⟩ := hd
  obtain ⟨L', n, t, e, q1, q2⟩ := h.last
  refine ⟨L', n, t, e, ?_, q1, ?_⟩
  · rcases q2 with rfl | ⟨q2, _⟩ <;> omega
  · rcases q2 with rfl | ⟨_, q3⟩
    · exact .inl rfl
    · exact .inr q3
theorem sg_opp (x : Int) : sg (-x) = -sg x := by rcases sg_cases x with q | q | q <;> rcases sg_cases (-x) with p | p | p <;> omega
theorem Last.opp {f g : Int → Int} {n s m t : Int} (hf : Last f n s) (hg : Last g m t) (e : ∀ x, g x = -f x) : m = n ∧ t = -s := by
  have k : t = -s := by
    rw [← hg.all (max n m) (by omega), ← hf.all (max n m) (by omega), e, sg_opp]
  refine ⟨?_, k⟩
  rcases Int.lt_trichotomy m n with q | q | q
  · exfalso
    rcases hf.bef with z | z
    · have := hg.pos
      omega
    · have := hg.all (n - 1) (by omega)
      rw [e, sg_opp, k] at this
      exact z (by omega)
  · exact q
  · exfalso
    rcases hg.bef with z | z
    · have := hf.pos
      omega
    · have := hf.all (m - 1) (by omega)
      rw [e, sg_opp, this, k] at z
      exact z rfl
theorem trim_ext : ∀ {l m : List Int}, (∀ k, l.getD k 0 = m.getD k 0) → trim l = trim m
  | [], m, h => (List.eq_nil_of_length_eq_zero (Nat.le_zero.mp (trim_le (l := m) (m := 0) fun k _ => (h k).symm))).symm
  | x :: xs, [], h => List.eq_nil_of_length_eq_zero (Nat.le_zero.mp (trim_le (m := 0) fun k _ => h k))
  | x :: xs, y :: ys, h => by
    have h0 : x = y := by simpa using h 0
    have ih := trim_ext (l := xs) (m := ys) fun k => by simpa using h (k + 1)
    rw [trim_cons, trim_cons, ih, h0]
theorem diff_same (a b : List Int) : plusP a (b.map fun x => 0 - x) = subP a b := by
  have h1 : trim (plusP a (b.map fun x => 0 - x)) = plusP a (b.map fun x => 0 - x) := plusP_trim _ _
  have h2 : trim (subP a b) = subP a b := plusP_trim _ _
  rw [← h1, ← h2]
  refine trim_ext fun k => ?_
  unfold subP
  rw [getD_plusP, getD_plusP, getD_PM]
  congr 1
  by_cases h : k < b.length
  · rw [List.getD_eq_getElem?_getD, List.getElem?_map, List.getElem?_eq_getElem h, List.getD_eq_getElem?_getD, List.getElem?_eq_getElem h]
    simp
  · rw [getD_zero h, getD_zero (by simpa using h)]
    rfl
/-- the sign that is due -/
def dueP (q : List Int) : Int := if q = [] then 0 else sg (q.getD (q.length - 1) 0)
theorem due_far {b : Nat} {q : List Int} (ht : trim q = q) (hb : PB b q) : ∀ n : Int, 2 ^ b ≤ n → sg (ev q n) = dueP q := by
  intro n hn
  unfold dueP
  by_cases h : q = []
  · subst h
    rfl
  · rw [if_neg h]
    obtain ⟨l, x, rfl, hx⟩ := trim_split ht h
    rw [(grow hx hn l hb).1]
    congr 1
    simp
theorem Last.due {b : Nat} {q : List Int} {n s : Int} (ht : trim q = q) (hb : PB b q) (h : Last (ev q) n s) : s = dueP q := by
  rw [← h.all (max n (2 ^ b)) (by omega), due_far ht hb _ (by omega)]
theorem subP_len {a b : List Int} (ha : a.length ≤ 17) (hb : b.length ≤ 17) : (subP a b).length ≤ 17 := by
  refine trim_le fun k hk => ?_
  rw [← getD_trim]
  show (plusP a (mulP b [-1])).getD k 0 = 0
  rw [getD_plusP, getD_PM, getD_zero (by omega), getD_zero (by omega)]
  rfl
theorem subP_bits {a b : List Int} (ha : PB 361 a) (hb : PB 361 b) (hl : b.length ≤ 17) : PB 400 (subP a b) := by
  have := mulP_bits hb mone (by omega) (by simp)
  exact (plusP_bits (ha.mono (by omega)) this).mono (by omega)
set_option maxHeartbeats 1000000 in
theorem compare_eq {S : Sto} {a b : List Int} (hc : ClS S) (ha : PB 361 a) (hb : PB 361 b) (la : a.length ≤ 17) (lb : b.length ≤ 17) : ∃ n s : Int, F_compare [.tup (a.map D.int), .tup (b.map D.int)] S = some (.ok (.tup [.int n, .int s]), S) ∧ Last (ev (subP a b)) n s ∧ n < 2 ^ 6100 := by
  have h1 := subtracted_eq (a := a) (b := b) hc hb (by omega) (by omega) (by omega) (by omega)
  have hl := subP_len la lb
  obtain ⟨L, h2, SO⟩ := signs_eq (M := 6000) (by omega) 39 (subP a b) 400 S hc (plusP_trim _ _) (by omega) hl (subP_bits ha hb lb) (by omega) (by omega)
  obtain ⟨L', n, t, e, hL⟩ := Last.of SO.sig SO.hd
  have hp := (SO.pos (n, t) (by rw [e]; simp)).2
  refine ⟨n, t, gc_pure (T := []) hc ?_ (by simp), hL, by have := pw2 (show 6000 + (subP a b).length ≤ 6100 by omega); omega⟩
  have hat : atI (prs L) (-1) = some (.tup [.int n, .int t]) := by
    rw [e, prs_app]
    exact atI_neg1 _ _
  simp [m_compare, h1, h2, hat]
end LW
namespace LW
open PySem PySem.Spec PyProof.Rows L2 RT RZ DL
theorem at_pair0 (x y : D) : atI [x, y] 0 = some x := rfl
theorem at_pair1 (x y : D) : atI [x, y] 1 = some y := rfl
theorem neg_bits {b : Nat} {l : List Int} (h : PB b l) : PB b (l.map fun x => 0 - x) := by
  intro x hx
  obtain ⟨y, hy, rfl⟩ := List.mem_map.mp hx
  have := h y hy
  omega
theorem xb_big : (2 : Int) ^ 6100 + 2 ^ (XB - 1) + 1000000010 < 2 ^ XB := by
  have h1 := pw2d (show XB - 1 < XB by rw [xb]; omega)
  have h2 := pw2d (show 6100 < XB - 1 by rw [xb]; omega)
  have h3 : (2 : Int) ^ 40 ≤ 2 ^ 6100 := pw2 (by omega)
  have h4 : (2 : Int) ^ 40 = 1099511627776 := by decide
  omega
theorem in_xb {z : Int} (h0 : 0 ≤ z) (h : z < 2 ^ XB) : z.natAbs < 2 ^ XB := by
  have : (z.natAbs : Int) < 2 ^ XB := by omega
  exact_mod_cast this
abbrev E1 (x2 x3 x4 x5 x6 x7 : Option D) : Ev := [some (.ref 0), some (.ref 2), x2, x3, x4, x5, x6, x7, none, none]
set_option maxHeartbeats 4000000 in
theorem law_true (ns : List Int) (hl : ns.length ≤ 63) (hbits : ∀ z ∈ ns, Builtin.Int.intBits z ≤ 1048576) : ∃ S', F_law [.ref 0] [.rol (ns.map D.int)] = some (.ok (.bl true), S') := by
  obtain ⟨q, t1, T1⟩ := tape_ex ns
  have s0 : [O.rol (ns.map D.int), .lst (ns.map D.int), .lst q][0]? = some (.rol (ns.map D.int)) := rfl
  generalize [O.rol (ns.map D.int), .lst (ns.map D.int), .lst q] = S1 at *
  obtain ⟨a, A, t2, W2, T2, la, pa, -⟩ := poly_ex T1
  obtain ⟨b0, B0, t3, W3, T3, lb0, pb0, -⟩ := poly_ex T2
  obtain ⟨v, B, t4, -, -, T4, W4⟩ := draw_wr (m := 2) T3 (by decide)
  have sB : B[0]? = some (.rol (ns.map D.int)) := by rw [W4.get (by decide), W3.get (by decide), W2.get (by decide)]; exact s0
  have pa' : PB 361 a := pa.mono (by omega)
  -- the second polynomial
  obtain ⟨b1, i1, lb1, pb1⟩ : ∃ b1 : List Int, (sIf (dBl (dOp gEq (dCall F__law_draw (dCons (dVar 1) (dCons (dC (.int 2)) dNil))) (dC (.int 0)))) (sAsg (.nm 3) (dCall F__law_plus (dCons (dVar 2) (dCons (dVar 3) dNil)))) sNext) (E1 (some (.tup (a.map D.int))) (some (.tup (b0.map D.int))) none none none none) B0 = some (.nx, E1 (some (.tup (a.map D.int))) (some (.tup (b1.map D.int))) none none none none, B) ∧ b1.length ≤ 17 ∧ PB 361 b1 := by
    have hp := law_plus_eq (a := a) (b := b0) T4.cl (by omega) (by omega)
    by_cases h : v = 0
    · subst h
      refine ⟨plusP a b0, ?_, Nat.le_trans plusP_len (by omega), plusP_bits pa pb0⟩
      simp [E1, t4, hp]
    · refine ⟨b0, ?_, lb0, pb0.mono (by omega)⟩
      simp [E1, t4, h]
  obtain ⟨b, C, i2, lb, pb, TC, sC⟩ : ∃ (b : List Int) (C : Sto), (sIf (dBl (dOp gGt (dCB cLen (dCons (dLc (wSeq (dVar 3)) (.nm 9) (dBl (dOp gGt (dCB cAbs (dCons (dVar 9) dNil)) (dOp gPow (dC (.int 10)) (dC (.int 9))))) (dVar 9) [9]) dNil)) (dC (.int 0)))) (sAsg (.nm 3) (dVar 2)) sNext) (E1 (some (.tup (a.map D.int))) (some (.tup (b1.map D.int))) none none none none) B = some (.nx, E1 (some (.tup (a.map D.int))) (some (.tup (b.map D.int))) none none none none, C) ∧ b.length ≤ 17 ∧ PB 361 b ∧ Tp C 2 1 ∧ C[0]? = some (.rol (ns.map D.int)) := by
    have hlc : lcD (fun S => True) (.nm 9) (dBl (dOp gGt (dCB cAbs (dCons (dVar 9) dNil)) (dOp gPow (dC (.int 10)) (dC (.int 9))))) (dVar 9) (E1 (some (.tup (a.map D.int))) (some (.tup (b1.map D.int))) none none none none) B.length (b1.map D.int) (B ++ [.lst []]) = some (B ++ [.lst ((b1.filter fun x => decide (1000000000 < if x < 0 then -x else x)).map D.int)]) := by
      rw [lcD_pure (t := .nm 9) (b1.map D.int) (fun d => match d with
        | .int x => decide (1000000000 < if x < 0 then -x else x)
        | _ => false) id (fun _ => trivial) (fun x acc hx => by
          obtain ⟨i, -, rfl⟩ := List.mem_map.mp hx
          refine ⟨_, rfl, ?_, fun _ => rfl⟩
          simp [E1]) (by rw [List.length_map]; have := line_big; omega)]
      rw [List.filter_map, List.map_id]
      rfl
    generalize (b1.filter fun x => decide (1000000000 < if x < 0 then -x else x)) = fl at *
    have TC : Tp (B ++ [.lst (fl.map D.int)]) 2 1 := T4.app (T4.cl.app (by simp [O.items]))
    by_cases h : 0 < fl.length
    · refine ⟨a, B ++ [.lst (fl.map D.int)], ?_, la, pa', TC, get_old sB⟩
      have h2 : (0 : Int) < fl.length := by omega
      simp only [E1] at hlc
      have h3 : fl ≠ [] := by rintro rfl; simp at h
      simp [E1, hlc, h2, h3]
    · refine ⟨b1, B ++ [.lst (fl.map D.int)], ?_, lb1, pb1, TC, get_old sB⟩
      have h3 : fl = [] := List.eq_nil_of_length_eq_zero (by omega)
      subst h3
      simp only [E1] at hlc
      simp [E1, hlc]
  have hlc : lcD (fun S => True) (.nm 9) dTrue (dOp gSub (dC (.int 0)) (dVar 9)) (E1 (some (.tup (a.map D.int))) (some (.tup (b.map D.int))) none none none none) C.length (b.map D.int) (C ++ [.lst []]) = some (C ++ [.lst ((b.map fun x => 0 - x).map D.int)]) := by
    rw [lcD_pure (t := .nm 9) (b.map D.int) (fun _ => true) (fun d => match d with
      | .int x => .int (0 - x)
      | d => d) (fun _ => trivial) (fun x acc hx => by
        obtain ⟨i, -, rfl⟩ := List.mem_map.mp hx
        exact ⟨_, rfl, rfl, fun _ => rfl⟩) (by rw [List.length_map]; have := line_big; omega)]
    rw [List.filter_eq_self.mpr fun _ _ => rfl, List.map_map, List.map_map]
    rfl
  obtain ⟨nb, hnb⟩ : ∃ nb, nb = b.map fun x => 0 - x := ⟨_, rfl⟩
  rw [← hnb] at hlc
  obtain ⟨D1, hD1⟩ : ∃ D1, D1 = C ++ [.lst (nb.map D.int)] := ⟨_, rfl⟩
  have TD : Tp D1 2 1 := by rw [hD1]; exact TC.app (TC.cl.app (by simp [O.items]))
  have sD : D1[0]? = some (.rol (ns.map D.int)) := by rw [hD1]; exact get_old sC
  have sqD : seqOf (.ref C.length) D1 = some (nb.map D.int) := by rw [hD1]; exact seq_last _ _
  rw [← hD1] at hlc
  have hq := law_plus_eq (a := a) (b := nb) TD.cl (by omega) (by rw [hnb]; simp; omega)
  rw [show plusP a nb = subP a b by rw [hnb]; exact diff_same a b] at hq
  have hql := subP_len la lb
  have hqb := subP_bits pa' pb lb
  have hqt : trim (subP a b) = subP a b := plusP_trim _ _
  have hqe : ∀ n, ev (subP b a) n = -ev (subP a b) n := fun n => by rw [ev_sub, ev_sub]; omega
  -- what compare tells
  obtain ⟨n, s, u1, LA, nB⟩ := compare_eq TD.cl pa' pb la lb
  have sdue := LA.due hqt hqb
  have i3 : (sIf (dTru (dVar 4)) (sAsg (.nm 5) (dCall F__law_sign (dCons (dOp gIx (dVar 4) (dOp gSub (dCB cLen (dCons (dVar 4) dNil)) (dC (.int 1)))) dNil))) sNext) (E1 (some (.tup (a.map D.int))) (some (.tup (b.map D.int))) (some (.tup ((subP a b).map D.int))) (some (.int 0)) none none) D1 = some (.nx, E1 (some (.tup (a.map D.int))) (some (.tup (b.map D.int))) (some (.tup ((subP a b).map D.int))) (some (.int s)) none none, D1) := by
    rw [sdue]
    unfold dueP
    generalize subP a b = q
    by_cases h : q = []
    · subst h
      simp [E1]
    · rw [if_neg h]
      obtain ⟨l, x, rfl⟩ := last_split h
      have hs := law_sign_eq (x := x) TD.cl
      have hat : atI ((l ++ [x]).map D.int) (((l ++ [x]).length : Int) - 1) = some (.int x) := atI_of (k := l.length) (by simp) (by simp)
      have hx : (l ++ [x]).getD ((l ++ [x]).length - 1) 0 = x := by simp
      have hne : ((l ++ [x]).map D.int).isEmpty = false := by simp
      rw [hx]
      generalize l ++ [x] = m at *
      simp [E1, hne, hat, hs, h]
  have hw := wholes_eq (a := [n, s]) TD.cl (by simp)
  obtain ⟨m0, F, d1, m1, m2, TF, WF⟩ := draw_wr (m := 1000000000) TD (by decide)
  have sF : seqOf (.ref 0) F = some (ns.map D.int) := by
    have : F[0]? = some (.rol (ns.map D.int)) := by rw [WF.get (by decide)]; exact sD
    simp [seqOf, this]
  obtain ⟨more, i4, mo1, mo2⟩ : ∃ more : Int, (sIf (dTru (dVar 0)) (sAsg (.nm 7) (dOp gAdd (dVar 7) (dCB cAbs (dCons (dCB cInt (dCons (dOp gIx (dVar 0) (dC (.int 0))) dNil)) dNil)))) sNext) (E1 (some (.tup (a.map D.int))) (some (.tup (b.map D.int))) (some (.tup ((subP a b).map D.int))) (some (.int s)) (some (.tup [.int n, .int s])) (some (.int m0))) F = some (.nx, E1 (some (.tup (a.map D.int))) (some (.tup (b.map D.int))) (some (.tup ((subP a b).map D.int))) (some (.int s)) (some (.tup [.int n, .int s])) (some (.int more)), F) ∧ 0 ≤ more ∧ more < 1000000000 + 2 ^ (XB - 1) := by
    have h0 : (0 : Int) < 2 ^ (XB - 1) := Int.pow_pos (by omega)
    match ns, sF, hbits with
    | [], sF, _ =>
      refine ⟨m0, ?_, m1, by omega⟩
      simp only [List.map_nil] at sF
      simp [E1, sF]
    | z :: zs, sF, hbits =>
      have hz := bits_nat (hbits z (by simp))
      refine ⟨m0 + (if z < 0 then -z else z), ?_, by split <;> omega, by split <;> omega⟩
      have hat : atI ((z :: zs).map D.int) 0 = some (.int z) := atI_of (k := 0) rfl rfl
      have hne : ((z :: zs).map D.int).isEmpty = false := rfl
      generalize (z :: zs).map D.int = zz at *
      simp [E1, sF, hat, hne]
  have big := xb_big
  have n0 := LA.pos
  obtain ⟨G, hG⟩ : ∃ G, G = F ++ [.lst [.int n, .int (n + 1), .int (n + 2), .int (n + more)]] := ⟨_, rfl⟩
  have cG : ClS G := by rw [hG]; exact TF.cl.app (by simp [O.items])
  have hL : gLst [.int n, .int (n + 1), .int (n + 2), .int (n + more)] F = some (.ref F.length, G) := by rw [hG]; exact E_gLst _ (show 4 ≤ sizeLine by decide)
  have sG : seqOf (.ref F.length) G = some [.int n, .int (n + 1), .int (n + 2), .int (n + more)] := by rw [hG]; exact seq_last _ _
  have vals : ∀ x : Int, 0 ≤ x → x < 2 ^ XB → F__law_value [.tup ((subP a b).map D.int), .int x] G = some (.ok (.int (ev (subP a b) x)), G) := fun x x0 xl => lval_eq cG hqb (in_xb x0 xl) (by rw [xb]; omega) hql (by rw [xb]; omega)
  have sgs : ∀ x : Int, F__law_sign [.int x] G = some (.ok (.int (sg x)), G) := fun x => law_sign_eq cG
  obtain ⟨n', s', u2, LB, -⟩ := compare_eq cG pb pa' lb la
  obtain ⟨rfl, rfl⟩ := LA.opp LB hqe
  obtain ⟨env', S', l1', u8, rfl, rfl⟩ := forD_all (ok := fun S => seqOf (.ref F.length) S = some [.int n', .int (n' + 1), .int (n' + 2), .int (n' + more)]) (t := .nm 8) (fb := (sIf (dBl (dOp gNe (dCall F__law_sign (dCons (dCall F__law_value (dCons (dVar 4) (dCons (dVar 8) dNil))) dNil)) (dVar 5))) (sRet (dC (.bl false))) sNext))
    (fun _ env S' => ∃ u8, env = [some (.ref 0), some (.ref 2), some (.tup (a.map D.int)), some (.tup (b.map D.int)), some (.tup ((subP a b).map D.int)), some (.int s), some (.tup [.int n', .int s]), some (.int more), u8, none] ∧ S' = G) [.int n', .int (n' + 1), .int (n' + 2), .int (n' + more)] (E1 (some (.tup (a.map D.int))) (some (.tup (b.map D.int))) (some (.tup ((subP a b).map D.int))) (some (.int s)) (some (.tup [.int n', .int s])) (some (.int more))) G (by rintro j env S' - ⟨_, -, rfl⟩; exact sG) ⟨_, rfl, rfl⟩ (by
      rintro j x env S' hx ⟨u8, rfl, rfl⟩
      obtain ⟨x, rfl, x0, x1⟩ : ∃ y : Int, x = .int y ∧ n' ≤ y ∧ y < 2 ^ XB := by
        have := List.mem_of_getElem? hx
        simp only [List.mem_cons, List.not_mem_nil, or_false] at this
        rcases this with rfl | rfl | rfl | rfl <;> exact ⟨_, rfl, by omega, by omega⟩
      have e1 := vals x (by omega) x1
      have e2 := LA.all x x0
      refine ⟨_, _, S', rfl, ?_, some (.int x), rfl, rfl⟩
      generalize subP a b = q at *
      simp [e1, sgs, e2])
  refine ⟨S', ?_⟩
  simp only [F_law, r_law, m_law]
  generalize (sIf (dBl (dOp gEq (dCall F__law_draw (dCons (dVar 1) (dCons (dC (.int 2)) dNil))) (dC (.int 0)))) (sAsg (.nm 3) (dCall F__law_plus (dCons (dVar 2) (dCons (dVar 3) dNil)))) sNext) = g1 at i1 ⊢
  generalize (sIf (dBl (dOp gGt (dCB cLen (dCons (dLc (wSeq (dVar 3)) (.nm 9) (dBl (dOp gGt (dCB cAbs (dCons (dVar 9) dNil)) (dOp gPow (dC (.int 10)) (dC (.int 9))))) (dVar 9) [9]) dNil)) (dC (.int 0)))) (sAsg (.nm 3) (dVar 2)) sNext) = g2 at i2 ⊢
  generalize (sIf (dTru (dVar 4)) (sAsg (.nm 5) (dCall F__law_sign (dCons (dOp gIx (dVar 4) (dOp gSub (dCB cLen (dCons (dVar 4) dNil)) (dC (.int 1)))) dNil))) sNext) = g3 at i3 ⊢
  generalize (sIf (dTru (dVar 0)) (sAsg (.nm 7) (dOp gAdd (dVar 7) (dCB cAbs (dCons (dCB cInt (dCons (dOp gIx (dVar 0) (dC (.int 0))) dNil)) dNil)))) sNext) = g4 at i4 ⊢
  simp only [E1] at i1 i2 i3 i4 hlc l1'
  simp only [List.map_cons, List.map_nil] at hw
  have hn0 : ¬ n' < 0 := by omega
  have k2 := l2
  have hbef : 0 < n' → F__law_value [.tup ((subP a b).map D.int), .int (n' - 1)] S' = some (.ok (.int (ev (subP a b) (n' - 1))), S') := fun h => vals _ (by omega) (by omega)
  have hbef2 : 0 < n' → ¬ sg (ev (subP a b) (n' - 1)) = s := fun h => by
    rcases LA.bef with z | z
    · omega
    · exact z
  generalize subP a b = q at *
  by_cases hpos : 0 < n'
  · have hbef := hbef hpos
    have hbef2 := hbef2 hpos
    simp [-E_gLst, t1, t2, t3, i1, i2, hlc, sqD, hq, i3, u1, hw, at_pair0, at_pair1, hn0, d1, i4, hL, sG, l1', hpos, hbef, sgs, hbef2, u2, k2, eqB_pair]
  · simp [-E_gLst, t1, t2, t3, i1, i2, hlc, sqD, hq, i3, u1, hw, at_pair0, at_pair1, hn0, d1, i4, hL, sG, l1', hpos, u2, k2, eqB_pair]
end LW
namespace LW
open PySem PySem.Spec PyProof.Rows L2 RT RZ DL
theorem all_mk {l : PySem.W.OpenLaw} {w : World} {K : PySem.W.Frag} {h : Heap} {mg : Str → Option Value} {fa f0 f1 f2 f3 f4 f5 f6 f7 f8 f9 f10 f11 f12 f13 f14 f15 f16 f17 f18 f19 f20 f21 f22 : Addr} (X : K.In h) (G : h.Ns mainGlobals mg) (hfa : mg "law" = some (.ref fa))
    {od0 an0 od1 an1 od2 an2 od3 an3 od4 an4 od5 an5 od6 an6 od7 an7 od8 an8 od9 an9 od10 an10 od11 an11 od12 an12 od13 an13 od14 an14 od15 an15 od16 an16 od17 an17 od18 an18 od19 an19 od20 an20 od21 an21 od22 an22 : Option Addr} {sl0 sl1 sl2 sl3 sl4 sl5 sl6 sl7 sl8 sl9 sl10 sl11 sl12 sl13 sl14 sl15 sl16 sl17 sl18 sl19 sl20 sl21 sl22 : Array (Option Value)} {oc0 kV0 dc0 pm0 cd0 ct0 oc1 kV1 dc1 pm1 cd1 ct1 oc2 kV2 dc2 pm2 cd2 ct2 oc3 kV3 dc3 pm3 cd3 ct3 oc4 kV4 dc4 pm4 cd4 ct4 oc5 kV5 dc5 pm5 cd5 ct5 oc6 kV6 dc6 pm6 cd6 ct6 oc7 kV7 dc7 pm7 cd7 ct7 oc8 kV8 dc8 pm8 cd8 ct8 oc9 kV9 dc9 pm9 cd9 ct9 oc10 kV10 dc10 pm10 cd10 ct10 oc11 kV11 dc11 pm11 cd11 ct11 oc12 kV12 dc12 pm12 cd12 ct12 oc13 kV13 dc13 pm13 cd13 ct13 oc14 kV14 dc14 pm14 cd14 ct14 oc15 kV15 dc15 pm15 cd15 ct15 oc16 kV16 dc16 pm16 cd16 ct16 oc17 kV17 dc17 pm17 cd17 ct17 oc18 kV18 dc18 pm18 cd18 ct18 oc19 kV19 dc19 pm19 cd19 ct19 oc20 kV20 dc20 pm20 cd20 ct20 oc21 kV21 dc21 pm21 cd21 ct21 oc22 kV22 dc22 pm22 cd22 ct22 : Value}
    (a0 : PySem.W.nsIn K mainGlobals "trimmed" = some (some (.ref f0))) (l0 : K.lookup f0 = some ⟨oc0, od0, .func (PySem.W.fnOf "trimmed" "trimmed" (defArgs s_trimmed) (defBody s_trimmed) (defScope s_trimmed) .none kV0 dc0 pm0 an0 cd0 ct0), sl0⟩) (c0 : PySem.W.codeIn K cd0 "trimmed" = true) (k0 : PySem.W.keepIn K (.ref f0) = true)
    (a1 : PySem.W.nsIn K mainGlobals "value_at" = some (some (.ref f1))) (l1 : K.lookup f1 = some ⟨oc1, od1, .func (PySem.W.fnOf "value_at" "value_at" (defArgs s_value_at) (defBody s_value_at) (defScope s_value_at) .none kV1 dc1 pm1 an1 cd1 ct1), sl1⟩) (c1 : PySem.W.codeIn K cd1 "value_at" = true) (k1 : PySem.W.keepIn K (.ref f1) = true)
    (a2 : PySem.W.nsIn K mainGlobals "coefficient_at" = some (some (.ref f2))) (l2 : K.lookup f2 = some ⟨oc2, od2, .func (PySem.W.fnOf "coefficient_at" "coefficient_at" (defArgs s_coefficient_at) (defBody s_coefficient_at) (defScope s_coefficient_at) .none kV2 dc2 pm2 an2 cd2 ct2), sl2⟩) (c2 : PySem.W.codeIn K cd2 "coefficient_at" = true) (k2 : PySem.W.keepIn K (.ref f2) = true)
    (a3 : PySem.W.nsIn K mainGlobals "added" = some (some (.ref f3))) (l3 : K.lookup f3 = some ⟨oc3, od3, .func (PySem.W.fnOf "added" "added" (defArgs s_added) (defBody s_added) (defScope s_added) .none kV3 dc3 pm3 an3 cd3 ct3), sl3⟩) (c3 : PySem.W.codeIn K cd3 "added" = true) (k3 : PySem.W.keepIn K (.ref f3) = true)
    (a4 : PySem.W.nsIn K mainGlobals "multiplied" = some (some (.ref f4))) (l4 : K.lookup f4 = some ⟨oc4, od4, .func (PySem.W.fnOf "multiplied" "multiplied" (defArgs s_multiplied) (defBody s_multiplied) (defScope s_multiplied) .none kV4 dc4 pm4 an4 cd4 ct4), sl4⟩) (c4 : PySem.W.codeIn K cd4 "multiplied" = true) (k4 : PySem.W.keepIn K (.ref f4) = true)
    (a5 : PySem.W.nsIn K mainGlobals "subtracted" = some (some (.ref f5))) (l5 : K.lookup f5 = some ⟨oc5, od5, .func (PySem.W.fnOf "subtracted" "subtracted" (defArgs s_subtracted) (defBody s_subtracted) (defScope s_subtracted) .none kV5 dc5 pm5 an5 cd5 ct5), sl5⟩) (c5 : PySem.W.codeIn K cd5 "subtracted" = true) (k5 : PySem.W.keepIn K (.ref f5) = true)
    (a6 : PySem.W.nsIn K mainGlobals "difference" = some (some (.ref f6))) (l6 : K.lookup f6 = some ⟨oc6, od6, .func (PySem.W.fnOf "difference" "difference" (defArgs s_difference) (defBody s_difference) (defScope s_difference) .none kV6 dc6 pm6 an6 cd6 ct6), sl6⟩) (c6 : PySem.W.codeIn K cd6 "difference" = true) (k6 : PySem.W.keepIn K (.ref f6) = true)
    (a7 : PySem.W.nsIn K mainGlobals "sign_of" = some (some (.ref f7))) (l7 : K.lookup f7 = some ⟨oc7, od7, .func (PySem.W.fnOf "sign_of" "sign_of" (defArgs s_sign_of) (defBody s_sign_of) (defScope s_sign_of) .none kV7 dc7 pm7 an7 cd7 ct7), sl7⟩) (c7 : PySem.W.codeIn K cd7 "sign_of" = true) (k7 : PySem.W.keepIn K (.ref f7) = true)
    (a8 : PySem.W.nsIn K mainGlobals "first_reaching" = some (some (.ref f8))) (l8 : K.lookup f8 = some ⟨oc8, od8, .func (PySem.W.fnOf "first_reaching" "first_reaching" (defArgs s_first_reaching) (defBody s_first_reaching) (defScope s_first_reaching) .none kV8 dc8 pm8 an8 cd8 ct8), sl8⟩) (c8 : PySem.W.codeIn K cd8 "first_reaching" = true) (k8 : PySem.W.keepIn K (.ref f8) = true)
    (a9 : PySem.W.nsIn K mainGlobals "far_end" = some (some (.ref f9))) (l9 : K.lookup f9 = some ⟨oc9, od9, .func (PySem.W.fnOf "far_end" "far_end" (defArgs s_far_end) (defBody s_far_end) (defScope s_far_end) .none kV9 dc9 pm9 an9 cd9 ct9), sl9⟩) (c9 : PySem.W.codeIn K cd9 "far_end" = true) (k9 : PySem.W.keepIn K (.ref f9) = true)
    (a10 : PySem.W.nsIn K mainGlobals "stretch_changes" = some (some (.ref f10))) (l10 : K.lookup f10 = some ⟨oc10, od10, .func (PySem.W.fnOf "stretch_changes" "stretch_changes" (defArgs s_stretch_changes) (defBody s_stretch_changes) (defScope s_stretch_changes) .none kV10 dc10 pm10 an10 cd10 ct10), sl10⟩) (c10 : PySem.W.codeIn K cd10 "stretch_changes" = true) (k10 : PySem.W.keepIn K (.ref f10) = true)
    (a11 : PySem.W.nsIn K mainGlobals "signs" = some (some (.ref f11))) (l11 : K.lookup f11 = some ⟨oc11, od11, .func (PySem.W.fnOf "signs" "signs" (defArgs s_signs) (defBody s_signs) (defScope s_signs) .none kV11 dc11 pm11 an11 cd11 ct11), sl11⟩) (c11 : PySem.W.codeIn K cd11 "signs" = true) (k11 : PySem.W.keepIn K (.ref f11) = true)
    (a12 : PySem.W.nsIn K mainGlobals "compare" = some (some (.ref f12))) (l12 : K.lookup f12 = some ⟨oc12, od12, .func (PySem.W.fnOf "compare" "compare" (defArgs s_compare) (defBody s_compare) (defScope s_compare) .none kV12 dc12 pm12 an12 cd12 ct12), sl12⟩) (c12 : PySem.W.codeIn K cd12 "compare" = true) (k12 : PySem.W.keepIn K (.ref f12) = true)
    (a13 : PySem.W.nsIn K mainGlobals "_law_tape" = some (some (.ref f13))) (l13 : K.lookup f13 = some ⟨oc13, od13, .func (PySem.W.fnOf "_law_tape" "_law_tape" (defArgs s__law_tape) (defBody s__law_tape) (defScope s__law_tape) .none kV13 dc13 pm13 an13 cd13 ct13), sl13⟩) (c13 : PySem.W.codeIn K cd13 "_law_tape" = true) (k13 : PySem.W.keepIn K (.ref f13) = true)
    (a14 : PySem.W.nsIn K mainGlobals "_law_draw" = some (some (.ref f14))) (l14 : K.lookup f14 = some ⟨oc14, od14, .func (PySem.W.fnOf "_law_draw" "_law_draw" (defArgs s__law_draw) (defBody s__law_draw) (defScope s__law_draw) .none kV14 dc14 pm14 an14 cd14 ct14), sl14⟩) (c14 : PySem.W.codeIn K cd14 "_law_draw" = true) (k14 : PySem.W.keepIn K (.ref f14) = true)
    (a15 : PySem.W.nsIn K mainGlobals "_law_trimmed" = some (some (.ref f15))) (l15 : K.lookup f15 = some ⟨oc15, od15, .func (PySem.W.fnOf "_law_trimmed" "_law_trimmed" (defArgs s__law_trimmed) (defBody s__law_trimmed) (defScope s__law_trimmed) .none kV15 dc15 pm15 an15 cd15 ct15), sl15⟩) (c15 : PySem.W.codeIn K cd15 "_law_trimmed" = true) (k15 : PySem.W.keepIn K (.ref f15) = true)
    (a16 : PySem.W.nsIn K mainGlobals "_law_plus" = some (some (.ref f16))) (l16 : K.lookup f16 = some ⟨oc16, od16, .func (PySem.W.fnOf "_law_plus" "_law_plus" (defArgs s__law_plus) (defBody s__law_plus) (defScope s__law_plus) .none kV16 dc16 pm16 an16 cd16 ct16), sl16⟩) (c16 : PySem.W.codeIn K cd16 "_law_plus" = true) (k16 : PySem.W.keepIn K (.ref f16) = true)
    (a17 : PySem.W.nsIn K mainGlobals "_law_times" = some (some (.ref f17))) (l17 : K.lookup f17 = some ⟨oc17, od17, .func (PySem.W.fnOf "_law_times" "_law_times" (defArgs s__law_times) (defBody s__law_times) (defScope s__law_times) .none kV17 dc17 pm17 an17 cd17 ct17), sl17⟩) (c17 : PySem.W.codeIn K cd17 "_law_times" = true) (k17 : PySem.W.keepIn K (.ref f17) = true)
    (a18 : PySem.W.nsIn K mainGlobals "_law_value" = some (some (.ref f18))) (l18 : K.lookup f18 = some ⟨oc18, od18, .func (PySem.W.fnOf "_law_value" "_law_value" (defArgs s__law_value) (defBody s__law_value) (defScope s__law_value) .none kV18 dc18 pm18 an18 cd18 ct18), sl18⟩) (c18 : PySem.W.codeIn K cd18 "_law_value" = true) (k18 : PySem.W.keepIn K (.ref f18) = true)
    (a19 : PySem.W.nsIn K mainGlobals "_law_sign" = some (some (.ref f19))) (l19 : K.lookup f19 = some ⟨oc19, od19, .func (PySem.W.fnOf "_law_sign" "_law_sign" (defArgs s__law_sign) (defBody s__law_sign) (defScope s__law_sign) .none kV19 dc19 pm19 an19 cd19 ct19), sl19⟩) (c19 : PySem.W.codeIn K cd19 "_law_sign" = true) (k19 : PySem.W.keepIn K (.ref f19) = true)
    (a20 : PySem.W.nsIn K mainGlobals "_law_polynomial" = some (some (.ref f20))) (l20 : K.lookup f20 = some ⟨oc20, od20, .func (PySem.W.fnOf "_law_polynomial" "_law_polynomial" (defArgs s__law_polynomial) (defBody s__law_polynomial) (defScope s__law_polynomial) .none kV20 dc20 pm20 an20 cd20 ct20), sl20⟩) (c20 : PySem.W.codeIn K cd20 "_law_polynomial" = true) (k20 : PySem.W.keepIn K (.ref f20) = true)
    (a21 : PySem.W.nsIn K mainGlobals "_law_wholes" = some (some (.ref f21))) (l21 : K.lookup f21 = some ⟨oc21, od21, .func (PySem.W.fnOf "_law_wholes" "_law_wholes" (defArgs s__law_wholes) (defBody s__law_wholes) (defScope s__law_wholes) .none kV21 dc21 pm21 an21 cd21 ct21), sl21⟩) (c21 : PySem.W.codeIn K cd21 "_law_wholes" = true) (k21 : PySem.W.keepIn K (.ref f21) = true)
    (a22 : PySem.W.nsIn K mainGlobals "law" = some (some (.ref f22))) (l22 : K.lookup f22 = some ⟨oc22, od22, .func (PySem.W.fnOf "law" "law" (defArgs s_law) (defBody s_law) (defScope s_law) .none kV22 dc22 pm22 an22 cd22 ct22), sl22⟩) (c22 : PySem.W.codeIn K cd22 "law" = true) (k22 : PySem.W.keepIn K (.ref f22) = true)
    (z_tuple : PySem.W.nsIn K mainGlobals "tuple" = some none) (z_list : PySem.W.nsIn K mainGlobals "list" = some none) (z_reversed : PySem.W.nsIn K mainGlobals "reversed" = some none) (z_len : PySem.W.nsIn K mainGlobals "len" = some none) (z_range : PySem.W.nsIn K mainGlobals "range" = some none) (z_max : PySem.W.nsIn K mainGlobals "max" = some none) (z_enumerate : PySem.W.nsIn K mainGlobals "enumerate" = some none) (z_int : PySem.W.nsIn K mainGlobals "int" = some none) (z_abs : PySem.W.nsIn K mainGlobals "abs" = some none) (z_min : PySem.W.nsIn K mainGlobals "min" = some none) (z_isinstance : PySem.W.nsIn K mainGlobals "isinstance" = some none) (z_bool : PySem.W.nsIn K mainGlobals "bool" = some none) :
    ∃ fd : FuncData, (∀ (s : Shared) (v : Value), BindsTo s fd ⟨[v], []⟩ [("_law_script", v)]) ∧ ∀ base : Heap, K.In base → base.Ns mainGlobals mg → FnOk l.prog w K mg base (L2.CX l.prog w) 46 fa fd ["_law_script"] (spLawB K) := by
  have e := hfa.symm.trans (PySem.W.mg_of X G a22)
  cases e
  have T : Txt mg := ⟨PySem.W.mg_none_of X G z_tuple, PySem.W.mg_none_of X G z_list, PySem.W.mg_none_of X G z_reversed, PySem.W.mg_none_of X G z_len, PySem.W.mg_none_of X G z_range, PySem.W.mg_none_of X G z_max, PySem.W.mg_none_of X G z_enumerate, PySem.W.mg_none_of X G z_int, PySem.W.mg_none_of X G z_abs, PySem.W.mg_none_of X G z_min, PySem.W.mg_none_of X G z_isinstance, PySem.W.mg_none_of X G z_bool⟩
  have F0 := fun_mk (st := s_trimmed) l0 c0 k0
  have F1 := fun_mk (st := s_value_at) l1 c1 k1
  have F2 := fun_mk (st := s_coefficient_at) l2 c2 k2
  have F3 := fun_mk (st := s_added) l3 c3 k3
  have F4 := fun_mk (st := s_multiplied) l4 c4 k4
  have F5 := fun_mk (st := s_subtracted) l5 c5 k5
  have F6 := fun_mk (st := s_difference) l6 c6 k6
  have F7 := fun_mk (st := s_sign_of) l7 c7 k7
  have F8 := fun_mk (st := s_first_reaching) l8 c8 k8
  have F9 := fun_mk (st := s_far_end) l9 c9 k9
  have F10 := fun_mk (st := s_stretch_changes) l10 c10 k10
  have F11 := fun_mk (st := s_signs) l11 c11 k11
  have F12 := fun_mk (st := s_compare) l12 c12 k12
  have F13 := fun_mk (st := s__law_tape) l13 c13 k13
  have F14 := fun_mk (st := s__law_draw) l14 c14 k14
  have F15 := fun_mk (st := s__law_trimmed) l15 c15 k15
  have F16 := fun_mk (st := s__law_plus) l16 c16 k16
  have F17 := fun_mk (st := s__law_times) l17 c17 k17
  have F18 := fun_mk (st := s__law_value) l18 c18 k18
  have F19 := fun_mk (st := s__law_sign) l19 c19 k19
  have F20 := fun_mk (st := s__law_polynomial) l20 c20 k20
  have F21 := fun_mk (st := s__law_wholes) l21 c21 k21
  have F22 := fun_mk (st := s_law) l22 c22 k22
  refine ⟨PySem.W.fnOf "law" "law" (defArgs s_law) (defBody s_law) (defScope s_law) .none kV22 dc22 pm22 an22 cd22 ct22, fun s v => .of_eq rfl, fun base _ _ => ?_⟩
  have C_trimmed : Cal l.prog w K mg base "trimmed" 1 ["numbers"] F_trimmed := (cal_mk (P := l.prog) (w := w) (base := base) F0 (PySem.W.mg_of X G a0) (ok_trimmed T F0) (F0.binds (ps := ["numbers"]) fun _ _ _ _ _ _ us hl => match us, hl with | [_], _ => rfl)).clean (gc_ok _)
  have C_value_at : Cal l.prog w K mg base "value_at" 1 ["polynomial", "n"] F_value_at := (cal_mk (P := l.prog) (w := w) (base := base) F1 (PySem.W.mg_of X G a1) (ok_value_at T F1) (F1.binds (ps := ["polynomial", "n"]) fun _ _ _ _ _ _ us hl => match us, hl with | [_, _], _ => rfl)).clean (gc_ok _)
  have C_coefficient_at : Cal l.prog w K mg base "coefficient_at" 1 ["polynomial", "power"] F_coefficient_at := (cal_mk (P := l.prog) (w := w) (base := base) F2 (PySem.W.mg_of X G a2) (ok_coefficient_at T F2) (F2.binds (ps := ["polynomial", "power"]) fun _ _ _ _ _ _ us hl => match us, hl with | [_, _], _ => rfl)).clean (gc_ok _)
  have C_added : Cal l.prog w K mg base "added" 2 ["first", "second"] F_added := (cal_mk (P := l.prog) (w := w) (base := base) F3 (PySem.W.mg_of X G a3) (ok_added T C_trimmed C_coefficient_at F3) (F3.binds (ps := ["first", "second"]) fun _ _ _ _ _ _ us hl => match us, hl with | [_, _], _ => rfl)).clean (gc_ok _)
  have C_multiplied : Cal l.prog w K mg base "multiplied" 2 ["first", "second"] F_multiplied := (cal_mk (P := l.prog) (w := w) (base := base) F4 (PySem.W.mg_of X G a4) (ok_multiplied T C_trimmed F4) (F4.binds (ps := ["first", "second"]) fun _ _ _ _ _ _ us hl => match us, hl with | [_, _], _ => rfl)).clean (gc_ok _)
  have C_subtracted : Cal l.prog w K mg base "subtracted" 3 ["first", "second"] F_subtracted := (cal_mk (P := l.prog) (w := w) (base := base) F5 (PySem.W.mg_of X G a5) (ok_subtracted T C_added C_multiplied F5) (F5.binds (ps := ["first", "second"]) fun _ _ _ _ _ _ us hl => match us, hl with | [_, _], _ => rfl)).clean (gc_ok _)
  have C_difference : Cal l.prog w K mg base "difference" 4 ["polynomial"] F_difference := (cal_mk (P := l.prog) (w := w) (base := base) F6 (PySem.W.mg_of X G a6) (ok_difference T C_subtracted C_added C_trimmed C_multiplied F6) (F6.binds (ps := ["polynomial"]) fun _ _ _ _ _ _ us hl => match us, hl with | [_], _ => rfl)).clean (gc_ok _)
  have C_sign_of : Cal l.prog w K mg base "sign_of" 1 ["number"] F_sign_of := (cal_mk (P := l.prog) (w := w) (base := base) F7 (PySem.W.mg_of X G a7) (ok_sign_of T F7) (F7.binds (ps := ["number"]) fun _ _ _ _ _ _ us hl => match us, hl with | [_], _ => rfl)).clean (gc_ok _)
  have C_first_reaching : Cal l.prog w K mg base "first_reaching" 2 ["polynomial", "direction", "least", "low", "high"] F_first_reaching := (cal_mk (P := l.prog) (w := w) (base := base) F8 (PySem.W.mg_of X G a8) (ok_first_reaching T C_value_at F8) (F8.binds (ps := ["polynomial", "direction", "least", "low", "high"]) fun _ _ _ _ _ _ us hl => match us, hl with | [_, _, _, _, _], _ => rfl)).clean (gc_ok _)
  have C_far_end : Cal l.prog w K mg base "far_end" 2 ["polynomial", "direction", "low"] F_far_end := (cal_mk (P := l.prog) (w := w) (base := base) F9 (PySem.W.mg_of X G a9) (ok_far_end T C_value_at F9) (F9.binds (ps := ["polynomial", "direction", "low"]) fun _ _ _ _ _ _ us hl => match us, hl with | [_, _, _], _ => rfl)).clean (gc_ok _)
  have C_stretch_changes : Cal l.prog w K mg base "stretch_changes" 3 ["polynomial", "direction", "low", "high"] F_stretch_changes := (cal_mk (P := l.prog) (w := w) (base := base) F10 (PySem.W.mg_of X G a10) (ok_stretch_changes T C_value_at C_sign_of C_first_reaching F10) (F10.binds (ps := ["polynomial", "direction", "low", "high"]) fun _ _ _ _ _ _ us hl => match us, hl with | [_, _, _, _], _ => rfl)).clean (gc_ok _)
  have C_signs : Cal l.prog w K mg base "signs" 44 ["polynomial"] F_signs := cal_rec (b := 4) (cal_none F11 (PySem.W.mg_of X G a11) (F11.binds (ps := ["polynomial"]) fun _ _ _ _ _ _ us hl => match us, hl with | [_], _ => rfl)) (fun n m C_signs => (cal_mk (P := l.prog) (w := w) (base := base) F11 (PySem.W.mg_of X G a11) (ok_signs T C_stretch_changes C_far_end C_signs C_difference C_sign_of C_value_at F11) (F11.binds (ps := ["polynomial"]) fun _ _ _ _ _ _ us hl => match us, hl with | [_], _ => rfl)).clean (gc_ok _)) rfl (fun _ => rfl) 40
  have C_compare : Cal l.prog w K mg base "compare" 45 ["first", "second"] F_compare := (cal_mk (P := l.prog) (w := w) (base := base) F12 (PySem.W.mg_of X G a12) (ok_compare T C_signs C_subtracted F12) (F12.binds (ps := ["first", "second"]) fun _ _ _ _ _ _ us hl => match us, hl with | [_, _], _ => rfl)).clean (gc_ok _)
  have C__law_tape : Cal l.prog w K mg base "_law_tape" 1 ["_law_script"] F__law_tape := (cal_mk (P := l.prog) (w := w) (base := base) F13 (PySem.W.mg_of X G a13) (ok__law_tape T F13) (F13.binds (ps := ["_law_script"]) fun _ _ _ _ _ _ us hl => match us, hl with | [_], _ => rfl)).clean (gc_ok _)
  have C__law_draw : Cal l.prog w K mg base "_law_draw" 1 ["_law_tape_here", "_law_many"] F__law_draw := (cal_mk (P := l.prog) (w := w) (base := base) F14 (PySem.W.mg_of X G a14) (ok__law_draw T F14) (F14.binds (ps := ["_law_tape_here", "_law_many"]) fun _ _ _ _ _ _ us hl => match us, hl with | [_, _], _ => rfl)).clean (gc_ok _)
  have C__law_trimmed : Cal l.prog w K mg base "_law_trimmed" 1 ["_law_numbers"] F__law_trimmed := (cal_mk (P := l.prog) (w := w) (base := base) F15 (PySem.W.mg_of X G a15) (ok__law_trimmed T F15) (F15.binds (ps := ["_law_numbers"]) fun _ _ _ _ _ _ us hl => match us, hl with | [_], _ => rfl)).clean (gc_ok _)
  have C__law_plus : Cal l.prog w K mg base "_law_plus" 2 ["_law_first", "_law_second"] F__law_plus := (cal_mk (P := l.prog) (w := w) (base := base) F16 (PySem.W.mg_of X G a16) (ok__law_plus T C__law_trimmed F16) (F16.binds (ps := ["_law_first", "_law_second"]) fun _ _ _ _ _ _ us hl => match us, hl with | [_, _], _ => rfl)).clean (gc_ok _)
  have C__law_times : Cal l.prog w K mg base "_law_times" 2 ["_law_first", "_law_second"] F__law_times := (cal_mk (P := l.prog) (w := w) (base := base) F17 (PySem.W.mg_of X G a17) (ok__law_times T C__law_trimmed F17) (F17.binds (ps := ["_law_first", "_law_second"]) fun _ _ _ _ _ _ us hl => match us, hl with | [_, _], _ => rfl)).clean (gc_ok _)
  have C__law_value : Cal l.prog w K mg base "_law_value" 1 ["_law_polynomial_here", "_law_n"] F__law_value := (cal_mk (P := l.prog) (w := w) (base := base) F18 (PySem.W.mg_of X G a18) (ok__law_value T F18) (F18.binds (ps := ["_law_polynomial_here", "_law_n"]) fun _ _ _ _ _ _ us hl => match us, hl with | [_, _], _ => rfl)).clean (gc_ok _)
  have C__law_sign : Cal l.prog w K mg base "_law_sign" 1 ["_law_number"] F__law_sign := (cal_mk (P := l.prog) (w := w) (base := base) F19 (PySem.W.mg_of X G a19) (ok__law_sign T F19) (F19.binds (ps := ["_law_number"]) fun _ _ _ _ _ _ us hl => match us, hl with | [_], _ => rfl)).clean (gc_ok _)
  have C__law_polynomial : Cal l.prog w K mg base "_law_polynomial" 3 ["_law_tape_here", "_law_most"] F__law_polynomial := (cal_mk (P := l.prog) (w := w) (base := base) F20 (PySem.W.mg_of X G a20) (ok__law_polynomial T C__law_plus C__law_draw C__law_times C__law_trimmed F20) (F20.binds (ps := ["_law_tape_here", "_law_most"]) fun _ _ _ _ _ _ us hl => match us, hl with | [_, _], _ => rfl)).clean (gc_ok _)
  have C__law_wholes : Cal l.prog w K mg base "_law_wholes" 1 ["_law_told"] F__law_wholes := (cal_mk (P := l.prog) (w := w) (base := base) F21 (PySem.W.mg_of X G a21) (ok__law_wholes T F21) (F21.binds (ps := ["_law_told"]) fun _ _ _ _ _ _ us hl => match us, hl with | [_], _ => rfl)).clean (gc_ok _)
  exact (ok_law T C_compare C__law_sign C__law_value C__law_draw C__law_wholes C__law_plus C__law_polynomial C__law_tape F22).imp (spLaw_impB law_true)
end LW
open PySem PySem.W PyProof.Rows in
set_option maxRecDepth 100000 in
set_option maxHeartbeats 0 in
theorem PySem.Challenge.cw_migraproof_k30_comparison_from_some_n_on_holds : PySem.Challenge.rw_migraproof_k30_comparison_from_some_n_on.Holds := by
  w_on; o_law; k_head; (case hw => w_witness2)
  k_fill
  refine L2.walk_ofB (l := PySem.Challenge.rw_migraproof_k30_comparison_from_some_n_on) (n := 63) (k := 46) (x := "_law_script") (CX := fun w => L2.CX PySem.Challenge.rw_migraproof_k30_comparison_from_some_n_on.prog w) (sp := fun w => DL.spLawB _) rfl (by decide) rfl ⟨rfl, by decide, by decide⟩ (fun w h Y => PySem.W.kIn_of Y) ?F (fun _ _ a ns hl hb ho hS => ⟨a, ns, rfl, hl, hb, ho, hS, fun _ => rfl⟩) (fun _ _ _ _ _ h => DL.cxF h)
  case F =>
    intro w mg fa h KX G hmg
    refine' LW.all_mk KX G hmg ?a0 ?l0 ?c0 ?k0 ?a1 ?l1 ?c1 ?k1 ?a2 ?l2 ?c2 ?k2 ?a3 ?l3 ?c3 ?k3 ?a4 ?l4 ?c4 ?k4 ?a5 ?l5 ?c5 ?k5 ?a6 ?l6 ?c6 ?k6 ?a7 ?l7 ?c7 ?k7 ?a8 ?l8 ?c8 ?k8 ?a9 ?l9 ?c9 ?k9 ?a10 ?l10 ?c10 ?k10 ?a11 ?l11 ?c11 ?k11 ?a12 ?l12 ?c12 ?k12 ?a13 ?l13 ?c13 ?k13 ?a14 ?l14 ?c14 ?k14 ?a15 ?l15 ?c15 ?k15 ?a16 ?l16 ?c16 ?k16 ?a17 ?l17 ?c17 ?k17 ?a18 ?l18 ?c18 ?k18 ?a19 ?l19 ?c19 ?k19 ?a20 ?l20 ?c20 ?k20 ?a21 ?l21 ?c21 ?k21 ?a22 ?l22 ?c22 ?k22 ?z_tuple ?z_list ?z_reversed ?z_len ?z_range ?z_max ?z_enumerate ?z_int ?z_abs ?z_min ?z_isinstance ?z_bool
    (case a0 => k_is)
    (case l0 => k_is)
    (case c0 => k_is)
    (case k0 => k_is)
    (case a1 => k_is)
    (case l1 => k_is)
    (case c1 => k_is)
    (case k1 => k_is)
    (case a2 => k_is)
    (case l2 => k_is)
    (case c2 => k_is)
    (case k2 => k_is)
    (case a3 => k_is)
    (case l3 => k_is)
    (case c3 => k_is)
    (case k3 => k_is)
    (case a4 => k_is)
    (case l4 => k_is)
    (case c4 => k_is)
    (case k4 => k_is)
    (case a5 => k_is)
    (case l5 => k_is)
    (case c5 => k_is)
    (case k5 => k_is)
    (case a6 => k_is)
    (case l6 => k_is)
    (case c6 => k_is)
    (case k6 => k_is)
    (case a7 => k_is)
    (case l7 => k_is)
    (case c7 => k_is)
    (case k7 => k_is)
    (case a8 => k_is)
    (case l8 => k_is)
    (case c8 => k_is)
    (case k8 => k_is)
    (case a9 => k_is)
    (case l9 => k_is)
    (case c9 => k_is)
    (case k9 => k_is)
    (case a10 => k_is)
    (case l10 => k_is)
    (case c10 => k_is)
    (case k10 => k_is)
    (case a11 => k_is)
    (case l11 => k_is)
    (case c11 => k_is)
    (case k11 => k_is)
    (case a12 => k_is)
    (case l12 => k_is)
    (case c12 => k_is)
    (case k12 => k_is)
    (case a13 => k_is)
    (case l13 => k_is)
    (case c13 => k_is)
    (case k13 => k_is)
    (case a14 => k_is)
    (case l14 => k_is)
    (case c14 => k_is)
    (case k14 => k_is)
    (case a15 => k_is)
    (case l15 => k_is)
    (case c15 => k_is)
    (case k15 => k_is)
    (case a16 => k_is)
    (case l16 => k_is)
    (case c16 => k_is)
    (case k16 => k_is)
    (case a17 => k_is)
    (case l17 => k_is)
    (case c17 => k_is)
    (case k17 => k_is)
    (case a18 => k_is)
    (case l18 => k_is)
    (case c18 => k_is)
    (case k18 => k_is)
    (case a19 => k_is)
    (case l19 => k_is)
    (case c19 => k_is)
    (case k19 => k_is)
    (case a20 => k_is)
    (case l20 => k_is)
    (case c20 => k_is)
    (case k20 => k_is)
    (case a21 => k_is)
    (case l21 => k_is)
    (case c21 => k_is)
    (case k21 => k_is)
    (case a22 => k_is)
    (case l22 => k_is)
    (case c22 => k_is)
    (case k22 => k_is)
    (case z_tuple => k_is)
    (case z_list => k_is)
    (case z_reversed => k_is)
    (case z_len => k_is)
    (case z_range => k_is)
    (case z_max => k_is)
    (case z_enumerate => k_is)
    (case z_int => k_is)
    (case z_abs => k_is)
    (case z_min => k_is)
    (case z_isinstance => k_is)
    (case z_bool => k_is)
