import PyProof.Rows.All
import Wide.All
import OpenK.AllK
import Wide.FinOn
import HandS.ForMost
import HandS.Flow
import HandS.Exc
import HandS.WordsExc
import HandS.Rev
import HandS.Zip
import HandS.TupAny
import HandS.Wide
import HandS.IsInst
import HandS.RaiseMore
import KE.GoesMore
import HandS.Defaults
import HandS.Text
import PySem.Challenge.RW_migraproof_k00_sample_and_spare_texts
set_option Elab.async false
set_option linter.all false
set_option maxRecDepth 100000
namespace DL
open PySem PySem.Spec PyProof.Rows L2

/-! ### data, the store, answers -/
inductive D where
  | non | bl (b : Bool) | int (i : Int) | str (x : Str) | tup (l : List D) | ref (n : Nat)
inductive O where
  | lst (l : List D) | rol (l : List D)
abbrev Sto := List O
abbrev Ev := List (Option D)
structure Exn where
  cls : Str
  args : Option (List (Str × D))
inductive R (α : Type) where
  | ok (a : α) | ex (e : Exn)
abbrev Ans (α : Type) := Option (R α × Sto)
def bindR {α β : Type} (x : Ans α) (k : α → Sto → Ans β) : Ans β := match x with
  | none => none
  | some (.ex e, S) => some (.ex e, S)
  | some (.ok a, S) => k a S
def okO {α : Type} (x : Option (α × Sto)) : Ans α := match x with
  | none => none
  | some (a, S) => some (.ok a, S)
def O.mut : O → Bool
  | .lst _ => true
  | .rol _ => false

/-! ### how data lie in the abstract heap -/
section
variable (K : PySem.W.Frag)
mutual
def RV (io : List Addr) (H : Hp) : D → V → Prop
  | .non, v => v = .non
  | .bl b, v => v = .bl b
  | .int i, v => v = .int i
  | .str x, v => v = .str x
  | .tup ds, v => ∃ a vs, v = .ref a ∧ SqT K H a vs ∧ RVs io H ds vs
  | .ref n, v => ∃ a, io[n]? = some a ∧ v = .ref a
def RVs (io : List Addr) (H : Hp) : List D → List V → Prop
  | [], vs => vs = []
  | d :: ds, vs => ∃ v r, vs = v :: r ∧ RV io H d v ∧ RVs io H ds r
end
structure Ext (io : List Addr) (H : Hp) (io' : List Addr) (H' : Hp) : Prop where
  pre : ∃ t, io' = io ++ t
  tup : ∀ a vs, SqT K H a vs → SqT K H' a vs
/-- a list that nobody writes -/
def ROL (H : Hp) (a : Addr) (vs : List V) : Prop := (∃ o, H a = some (.frz o (.lst vs))) ∨
    ∃ (o : Obj) (its : Array Value) (n : Nat), K.lookup a = some o ∧ o.cls = .type "list" ∧ o.dict = none ∧ o.data = .seq its n ∧ its.size ≤ sizeLine ∧ Vals vs its.toList
def RO (io : List Addr) (H : Hp) : O → Addr → Prop
  | .lst ds, a => ∃ vs, H a = some (.lst vs) ∧ RVs K io H ds vs
  | .rol ds, a => ∃ vs, ROL K H a vs ∧ RVs K io H ds vs
structure RS (io : List Addr) (S : Sto) (H : Hp) : Prop where
  len : io.length = S.length
  obj : ∀ (n : Nat) (o : O) (a : Addr), S[n]? = some o → io[n]? = some a → RO K io H o a
  inj : ∀ (m n : Nat) (a : Addr) (o u : O), io[m]? = some a → io[n]? = some a → S[m]? = some o → S[n]? = some u → o.mut = true → u.mut = true → m = n
structure RE (io : List Addr) (H : Hp) (env : Ev) (σ : L2.St) : Prop where
  len : env.length = σ.length
  get : ∀ (i : Nat) (d : D), env[i]? = some (some d) → ∃ v, σ[i]? = some (some v) ∧ RV K io H d v
end

section
variable {K : PySem.W.Frag} {io io' io2 : List Addr} {H H' H2 : Hp} {S S' : Sto}
theorem Ext.refl : Ext K io H io H := ⟨⟨[], by simp⟩, fun _ _ h => h⟩
theorem Ext.trans (a : Ext K io H io' H') (b : Ext K io' H' io2 H2) : Ext K io H io2 H2 := by
  obtain ⟨t, rfl⟩ := a.pre
  obtain ⟨u, rfl⟩ := b.pre
  exact ⟨⟨t ++ u, by simp⟩, fun x vs h => b.tup x vs (a.tup x vs h)⟩
theorem Ext.get (e : Ext K io H io' H') {n : Nat} {a : Addr} (h : io[n]? = some a) : io'[n]? = some a := by
  obtain ⟨t, rfl⟩ := e.pre
  rw [List.getElem?_append_left (List.getElem?_eq_some_iff.mp h).1]
  exact h
mutual
theorem RV.mono (e : Ext K io H io' H') : ∀ (d : D) (v : V), RV K io H d v → RV K io' H' d v
  | .non, _, h => by simpa [RV] using h
  | .bl _, _, h => by simpa [RV] using h
  | .int _, _, h => by simpa [RV] using h
  | .str _, _, h => by simpa [RV] using h
  | .tup ds, v, h => by
    unfold RV at h ⊢
    obtain ⟨a, vs, e1, e2, e3⟩ := h
    exact ⟨a, vs, e1, e.tup a vs e2, RVs.mono e ds vs e3⟩
  | .ref n, v, h => by
    unfold RV at h ⊢
    obtain ⟨a, e1, e2⟩ := h
    exact ⟨a, e.get e1, e2⟩
theorem RVs.mono (e : Ext K io H io' H') : ∀ (ds : List D) (vs : List V), RVs K io H ds vs → RVs K io' H' ds vs
  | [], _, h => by simpa [RVs] using h
  | d :: ds, vs, h => by
    unfold RVs at h ⊢
    obtain ⟨v, r, e1, e2, e3⟩ := h
    exact ⟨v, r, e1, RV.mono e d v e2, RVs.mono e ds r e3⟩
end
theorem RE.mono {env : Ev} {σ : L2.St} (h : RE K io H env σ) (e : Ext K io H io' H') : RE K io' H' env σ := ⟨h.len, fun i d q => by
  obtain ⟨v, e1, e2⟩ := h.get i d q
  exact ⟨v, e1, RV.mono e d v e2⟩⟩
theorem RE.set {env : Ev} {σ : L2.St} (h : RE K io H env σ) (i : Nat) {d : D} {v : V} (r : RV K io H d v) : RE K io H (env.set i (some d)) (σ.set i (some v)) := by
  refine ⟨by simp [h.len], fun j e q => ?_⟩
  by_cases hj : i = j
  · subst hj
    have hi : i < env.length := by
      have := (List.getElem?_eq_some_iff.mp q).1
      simpa using this
    rw [List.getElem?_set_self hi] at q
    cases q
    exact ⟨v, List.getElem?_set_self (by rw [← h.len]; exact hi), r⟩
  · rw [List.getElem?_set_ne hj] at q ⊢
    exact h.get j e q
theorem RVs.length : ∀ {ds : List D} {vs : List V}, RVs K io H ds vs → ds.length = vs.length
  | [], _, h => by
    unfold RVs at h
    subst h
    rfl
  | d :: ds, _, h => by
    unfold RVs at h
    obtain ⟨v, r, e, _, h⟩ := h
    subst e
    rw [List.length_cons, List.length_cons, RVs.length h]
theorem RVs.get : ∀ {ds : List D} {vs : List V} {i : Nat} {d : D}, RVs K io H ds vs → ds[i]? = some d → ∃ v, vs[i]? = some v ∧ RV K io H d v
  | [], _, _, _, _, q => by simp at q
  | d :: ds, _, 0, x, h, q => by
    unfold RVs at h
    obtain ⟨v, r, e, h1, h2⟩ := h
    subst e
    simp at q
    subst q
    exact ⟨v, rfl, h1⟩
  | d :: ds, _, i + 1, x, h, q => by
    unfold RVs at h
    obtain ⟨v, r, e, h1, h2⟩ := h
    subst e
    simp at q
    obtain ⟨w, e1, e2⟩ := RVs.get h2 q
    exact ⟨w, by simpa using e1, e2⟩
theorem RVs.append : ∀ {ds es : List D} {vs ws : List V}, RVs K io H ds vs → RVs K io H es ws → RVs K io H (ds ++ es) (vs ++ ws)
  | [], _, _, _, h, q => by
    unfold RVs at h
    subst h
    exact q
  | d :: ds, es, _, ws, h, q => by
    unfold RVs at h
    obtain ⟨v, r, e, h1, h2⟩ := h
    subst e
    show RVs K io H (d :: (ds ++ es)) (v :: (r ++ ws))
    unfold RVs
    exact ⟨v, _, rfl, h1, RVs.append h2 q⟩
theorem RVs.nil : RVs K io H [] [] := by
  unfold RVs
  rfl
theorem RVs.cons {d : D} {ds : List D} {v : V} {vs : List V} (a : RV K io H d v) (b : RVs K io H ds vs) : RVs K io H (d :: ds) (v :: vs) := by
  unfold RVs
  exact ⟨v, vs, rfl, a, b⟩
theorem RVs.one {d : D} {v : V} (a : RV K io H d v) : RVs K io H [d] [v] := RVs.cons a RVs.nil
theorem RVs.set {d : D} {v : V} (r : RV K io H d v) : ∀ {ds : List D} {vs : List V} (i : Nat), RVs K io H ds vs → RVs K io H (ds.set i d) (vs.set i v)
  | [], _, i, h => by
    unfold RVs at h
    subst h
    exact RVs.nil
  | e :: ds, _, 0, h => by
    unfold RVs at h
    obtain ⟨w, q, e, h1, h2⟩ := h
    subst e
    exact RVs.cons r h2
  | e :: ds, _, i + 1, h => by
    unfold RVs at h
    obtain ⟨w, q, e, h1, h2⟩ := h
    subst e
    exact RVs.cons h1 (RVs.set r i h2)
theorem RVs.take : ∀ {ds : List D} {vs : List V} (n : Nat), RVs K io H ds vs → RVs K io H (ds.take n) (vs.take n)
  | _, _, 0, _ => by simpa using RVs.nil
  | [], _, n + 1, h => by
    unfold RVs at h
    subst h
    simpa using RVs.nil
  | d :: ds, _, n + 1, h => by
    unfold RVs at h
    obtain ⟨w, q, e, h1, h2⟩ := h
    subst e
    exact RVs.cons h1 (RVs.take n h2)
theorem RVs.drop : ∀ {ds : List D} {vs : List V} (n : Nat), RVs K io H ds vs → RVs K io H (ds.drop n) (vs.drop n)
  | _, _, 0, h => by simpa using h
  | [], _, n + 1, h => by
    unfold RVs at h
    subst h
    simpa using RVs.nil
  | d :: ds, _, n + 1, h => by
    unfold RVs at h
    obtain ⟨w, q, e, h1, h2⟩ := h
    subst e
    exact RVs.drop n h2

/-! ### the heap changes -/
theorem SqT.fresh {p : Addr} {o : HO} (hp : H p = none) : ∀ a vs, SqT K H a vs → SqT K (upd H p o) a vs := fun a vs h => by
  rcases h with (h | ⟨u, h⟩) | h
  · exact .inl (.inl (by rw [upd_ne (ne_of_none h hp)]; exact h))
  · exact .inl (.inr ⟨u, by rw [upd_ne (ne_of_none h hp)]; exact h⟩)
  · exact .inr h
theorem SqT.write {p : Addr} {o : HO} {xs : List V} (hp : H p = some (.lst xs)) : ∀ a vs, SqT K H a vs → SqT K (upd H p o) a vs := fun a vs h => by
  rcases h with (h | ⟨u, h⟩) | h
  · exact .inl (.inl (by rw [upd_ne (ne_of h hp (by intro z; cases z))]; exact h))
  · exact .inl (.inr ⟨u, by rw [upd_ne (ne_of h hp (by intro z; cases z))]; exact h⟩)
  · exact .inr h
theorem ROL.fresh {p a : Addr} {o : HO} {vs : List V} (hp : H p = none) (h : ROL K H a vs) : ROL K (upd H p o) a vs := by
  rcases h with ⟨u, h⟩ | h
  · exact .inl ⟨u, by rw [upd_ne (ne_of_none h hp)]; exact h⟩
  · exact .inr h
theorem ROL.write {p a : Addr} {o : HO} {vs xs : List V} (hp : H p = some (.lst xs)) (h : ROL K H a vs) : ROL K (upd H p o) a vs := by
  rcases h with ⟨u, h⟩ | h
  · exact .inl ⟨u, by rw [upd_ne (ne_of h hp (by intro z; cases z))]; exact h⟩
  · exact .inr h
theorem ROL.sq {a : Addr} {vs : List V} (h : ROL K H a vs) : SqL K H a vs := by
  rcases h with ⟨u, h⟩ | h
  · exact .inl (.inr ⟨u, h⟩)
  · exact .inr h
theorem RO.fresh {t : List Addr} {p a : Addr} {o : HO} (hp : H p = none) : ∀ {u : O}, RO K io H u a → RO K (io ++ t) (upd H p o) u a
  | .lst ds, ⟨vs, h1, h2⟩ => ⟨vs, by rw [upd_ne (ne_of_none h1 hp)]; exact h1, RVs.mono ⟨⟨t, rfl⟩, SqT.fresh hp⟩ ds vs h2⟩
  | .rol ds, ⟨vs, h1, h2⟩ => ⟨vs, h1.fresh hp, RVs.mono ⟨⟨t, rfl⟩, SqT.fresh hp⟩ ds vs h2⟩
/-- a new tuple -/
theorem RS.tupNew (h : RS K io S H) {p : Addr} {vs : List V} (hp : H p = none) : RS K io S (upd H p (.tup vs)) := ⟨h.len, fun n o a e1 e2 => by
  have q := (h.obj n o a e1 e2).fresh (t := []) (o := .tup vs) hp
  rwa [List.append_nil] at q, h.inj⟩
theorem Ext.fresh {p : Addr} {o : HO} (hp : H p = none) : Ext K io H io (upd H p o) := ⟨⟨[], by simp⟩, SqT.fresh hp⟩
theorem RS.mutSome (h : RS K io S H) {n : Nat} {o : O} {a : Addr} (e1 : S[n]? = some o) (e2 : io[n]? = some a) (m : o.mut = true) : ∃ xs, H a = some (.lst xs) := by
  have q := h.obj n o a e1 e2
  cases o with
  | lst ds =>
    obtain ⟨vs, q, _⟩ := q
    exact ⟨vs, q⟩
  | rol ds => cases m
/-- a new list -/
theorem RS.lstNew (h : RS K io S H) {p : Addr} {ds : List D} {vs : List V} (hp : H p = none) (r : RVs K io H ds vs) : RS K (io ++ [p]) (S ++ [.lst ds]) (upd H p (.lst vs)) := by
  have hS : ∀ {n : Nat} {o : O}, (S ++ [O.lst ds])[n]? = some o → S[n]? = some o ∨ (n = S.length ∧ o = .lst ds) := fun {n o} e => by
    by_cases hn : n < S.length
    · rw [List.getElem?_append_left hn] at e
      exact .inl e
    · rw [List.getElem?_append_right (by omega)] at e
      have h0 : n - S.length = 0 := by
        have := (List.getElem?_eq_some_iff.mp e).1
        simp at this
        omega
      rw [h0] at e
      cases e
      exact .inr ⟨by omega, rfl⟩
  have hI : ∀ {n : Nat} {a : Addr}, (io ++ [p])[n]? = some a → io[n]? = some a ∨ (n = S.length ∧ a = p) := fun {n a} e => by
    by_cases hn : n < io.length
    · rw [List.getElem?_append_left hn] at e
      exact .inl e
    · rw [List.getElem?_append_right (by omega)] at e
      have h0 : n - io.length = 0 := by
        have := (List.getElem?_eq_some_iff.mp e).1
        simp at this
        omega
      rw [h0] at e
      cases e
      exact .inr ⟨by have := h.len; omega, rfl⟩
  have lt : ∀ {n : Nat} {o : O}, S[n]? = some o → n < S.length := fun e => (List.getElem?_eq_some_iff.mp e).1
  have ltI : ∀ {n : Nat} {a : Addr}, io[n]? = some a → n < S.length := fun e => by
    rw [← h.len]
    exact (List.getElem?_eq_some_iff.mp e).1
  refine ⟨by simp [h.len], fun n o a e1 e2 => ?_, fun m n a o u e1 e2 e3 e4 m1 m2 => ?_⟩
  · rcases hS e1 with e1 | ⟨rfl, rfl⟩
    · rcases hI e2 with e2 | ⟨rfl, rfl⟩
      · exact (h.obj n o a e1 e2).fresh hp
      · exact absurd (lt e1) (Nat.lt_irrefl _)
    · rcases hI e2 with e2 | ⟨_, rfl⟩
      · exact absurd (ltI e2) (Nat.lt_irrefl _)
      · exact ⟨vs, upd_same, RVs.mono ⟨⟨[a], rfl⟩, SqT.fresh hp⟩ ds vs r⟩
  · rcases hS e3 with f3 | ⟨q3, r3⟩
    · rcases hI e1 with f1 | ⟨q1, _⟩
      · rcases hS e4 with f4 | ⟨q4, r4⟩
        · rcases hI e2 with f2 | ⟨q2, _⟩
          · exact h.inj m n a o u f1 f2 f3 f4 m1 m2
          · exact absurd (q2 ▸ lt f4) (Nat.lt_irrefl _)
        · rcases hI e2 with f2 | ⟨_, r2⟩
          · exact absurd (q4 ▸ ltI f2) (Nat.lt_irrefl _)
          · obtain ⟨xs, q⟩ := h.mutSome f3 f1 m1
            rw [r2, hp] at q
            cases q
      · exact absurd (q1 ▸ lt f3) (Nat.lt_irrefl _)
    · rcases hI e1 with f1 | ⟨_, r1⟩
      · exact absurd (q3 ▸ ltI f1) (Nat.lt_irrefl _)
      · rcases hS e4 with f4 | ⟨q4, r4⟩
        · rcases hI e2 with f2 | ⟨q2, _⟩
          · obtain ⟨xs, q⟩ := h.mutSome f4 f2 m2
            rw [r1, hp] at q
            cases q
          · exact absurd (q2 ▸ lt f4) (Nat.lt_irrefl _)
        · rw [q3, q4]
theorem Ext.new {p : Addr} {o : HO} (hp : H p = none) : Ext K io H (io ++ [p]) (upd H p o) := ⟨⟨[p], rfl⟩, SqT.fresh hp⟩
theorem RS.lastNew (h : RS K io S H) {p : Addr} : (io ++ [p])[S.length]? = some p := by
  rw [← h.len]
  simp
/-- a list is written -/
theorem RS.write (h : RS K io S H) {n : Nat} {a : Addr} {ds es : List D} {vs : List V} (e1 : S[n]? = some (.lst es)) (e2 : io[n]? = some a) (r : RVs K io H ds vs) : RS K io (S.set n (.lst ds)) (upd H a (.lst vs)) ∧ Ext K io H io (upd H a (.lst vs)) := by
  obtain ⟨xs, hx⟩ := h.mutSome e1 e2 rfl
  have hn : n < S.length := (List.getElem?_eq_some_iff.mp e1).1
  have ext : Ext K io H io (upd H a (.lst vs)) := ⟨⟨[], by simp⟩, SqT.write hx⟩
  have old : ∀ {m : Nat} {o : O}, (S.set n (.lst ds))[m]? = some o → (m = n ∧ o = .lst ds) ∨ (m ≠ n ∧ S[m]? = some o) := fun {m o} e => by
    by_cases hm : n = m
    · subst hm
      rw [List.getElem?_set_self hn] at e
      cases e
      exact .inl ⟨rfl, rfl⟩
    · rw [List.getElem?_set_ne hm] at e
      exact .inr ⟨fun z => hm z.symm, e⟩
  refine ⟨⟨by simp [h.len], fun m o b q1 q2 => ?_, fun k m b o u q1 q2 q3 q4 m1 m2 => ?_⟩, ext⟩
  · rcases old q1 with ⟨rfl, rfl⟩ | ⟨ne, q1⟩
    · rw [e2] at q2
      cases q2
      exact ⟨vs, upd_same, RVs.mono ext ds vs r⟩
    · have q := h.obj m o b q1 q2
      cases o with
      | lst fs =>
        obtain ⟨ws, w1, w2⟩ := q
        have nb : b ≠ a := fun z => by
          subst z
          exact ne (h.inj m n b _ _ q2 e2 q1 e1 rfl rfl)
        exact ⟨ws, by rw [upd_ne nb]; exact w1, RVs.mono ext fs ws w2⟩
      | rol fs =>
        obtain ⟨ws, w1, w2⟩ := q
        exact ⟨ws, w1.write hx, RVs.mono ext fs ws w2⟩
  · have g : ∀ {m : Nat} {o : O}, (S.set n (.lst ds))[m]? = some o → o.mut = true → ∃ o', S[m]? = some o' ∧ o'.mut = true := fun {m o} e mm => by
      rcases old e with ⟨rfl, rfl⟩ | ⟨_, e⟩
      · exact ⟨_, e1, rfl⟩
      · exact ⟨o, e, mm⟩
    obtain ⟨o', a1, a2⟩ := g q3 m1
    obtain ⟨u', b1, b2⟩ := g q4 m2
    exact h.inj k m b o' u' q1 q2 a1 b1 a2 b2
/-- what is read at a location -/
theorem RS.lst (h : RS K io S H) {n : Nat} {ds : List D} {v : V} (e : S[n]? = some (.lst ds)) (r : RV K io H (.ref n) v) : ∃ a vs, v = .ref a ∧ io[n]? = some a ∧ H a = some (.lst vs) ∧ RVs K io H ds vs := by
  unfold RV at r
  obtain ⟨a, e1, e2⟩ := r
  obtain ⟨vs, q1, q2⟩ := h.obj n _ a e e1
  exact ⟨a, vs, e2, e1, q1, q2⟩
theorem RS.seq (h : RS K io S H) {n : Nat} {ds : List D} {v : V} (e : S[n]? = some (.lst ds) ∨ S[n]? = some (.rol ds)) (r : RV K io H (.ref n) v) : ∃ a vs, v = .ref a ∧ io[n]? = some a ∧ SqL K H a vs ∧ RVs K io H ds vs := by
  unfold RV at r
  obtain ⟨a, e1, e2⟩ := r
  rcases e with e | e
  · obtain ⟨vs, q1, q2⟩ := h.obj n _ a e e1
    exact ⟨a, vs, e2, e1, SqL.of q1, q2⟩
  · obtain ⟨vs, q1, q2⟩ := h.obj n _ a e e1
    exact ⟨a, vs, e2, e1, q1.sq, q2⟩
end
end DL
namespace DL
open PySem PySem.Spec PyProof.Rows L2

/-! ### readings made of a computation -/
section
variable (K : PySem.W.Frag) (mg : Str → Option Value) (W : XK)
def RX (io : List Addr) (H : Hp) (e : Exn) (c : Value) (dd : Option Addr) : Prop := mg e.cls = some c ∧ match e.args with
  | none => dd = none
  | some fs => ∃ d vs, dd = some d ∧ H d = some (.xd vs) ∧ vs.map (·.1) = fs.map (·.1) ∧ RVs K io H (fs.map (·.2)) (vs.map (·.2))
variable {α β : Type} (rel : List Addr → Hp → α → β → Prop)
def EndG (io : List Addr) (H : Hp) (r : R α) (S' : Sto) (Q : β → Hp → Prop) : Prop := match r with
  | .ok d => ∀ io' H' v, Ext K io H io' H' → RS K io' S' H' → rel io' H' d v → Q v H'
  | .ex e => ∀ io' H' c dd, Ext K io H io' H' → RS K io' S' H' → RX K mg io' H' e c dd → W c dd H'
def tG (f : Ev → Sto → Ans α) : L2.St → Hp → (β → Hp → Prop) → Prop := fun σ H Q =>
  ∃ io S env r S', RS K io S H ∧ RE K io H env σ ∧ f env S = some (r, S') ∧ EndG K mg W rel io H r S' Q
abbrev tM (f : Ev → Sto → Ans D) : TE := tG K mg W (RV K) f
abbrev tMA (f : Ev → Sto → Ans (List D)) : TA := tG K mg W (RVs K) f
abbrev rB : List Addr → Hp → Bool → Bool → Prop := fun _ _ a b => a = b
abbrev tMT (f : Ev → Sto → Ans Bool) : TT := tG K mg W rB f
/-- a two-place operation on values, from one on data -/
def rM (g : D → D → Sto → Option (D × Sto)) : R2 := fun x y H Q =>
  ∃ io S a b d S', RS K io S H ∧ RV K io H a x ∧ RV K io H b y ∧ g a b S = some (d, S') ∧ ∀ io' H' v, Ext K io H io' H' → RS K io' S' H' → RV K io' H' d v → Q v H'
def rMU (g : D → Sto → Option (D × Sto)) : V → Hp → VK → Prop := fun x H Q =>
  ∃ io S a d S', RS K io S H ∧ RV K io H a x ∧ g a S = some (d, S') ∧ ∀ io' H' v, Ext K io H io' H' → RS K io' S' H' → RV K io' H' d v → Q v H'
def rMC (g : List D → Sto → Option (D × Sto)) : List V → Hp → VK → Prop := fun xs H Q =>
  ∃ io S ds d S', RS K io S H ∧ RVs K io H ds xs ∧ g ds S = some (d, S') ∧ ∀ io' H' v, Ext K io H io' H' → RS K io' S' H' → RV K io' H' d v → Q v H'
def rMM (g : D → List D → Sto → Option (D × Sto)) : V → List V → Hp → VK → Prop := fun x xs H Q =>
  ∃ io S a ds d S', RS K io S H ∧ RV K io H a x ∧ RVs K io H ds xs ∧ g a ds S = some (d, S') ∧ ∀ io' H' v, Ext K io H io' H' → RS K io' S' H' → RV K io' H' d v → Q v H'
end
section
variable {K : PySem.W.Frag} {mg : Str → Option Value} {W : XK} {α β γ δ : Type} {rel : List Addr → Hp → α → β → Prop} {relg : List Addr → Hp → γ → δ → Prop}
  {io io' : List Addr} {H H' : Hp} {S S' : Sto} {σ : L2.St} {env : Ev}
theorem EndG.mono {r : R α} {Q : β → Hp → Prop} (h : EndG K mg W rel io H r S' Q) (e : Ext K io H io' H') : EndG K mg W rel io' H' r S' Q := by
  cases r with
  | ok d => exact fun io2 H2 v e2 => h io2 H2 v (e.trans e2)
  | ex x => exact fun io2 H2 c dd e2 => h io2 H2 c dd (e.trans e2)
theorem EndG.now {d : α} {v : β} {Q : β → Hp → Prop} (h : EndG K mg W rel io H (.ok d) S' Q) (rs : RS K io S' H) (r : rel io H d v) : Q v H := h io H v Ext.refl rs r
theorem tG_bind2 {f : Ev → Sto → Ans α} {k : α → Sto → Ans γ} {r : R γ} {Q : β → Hp → Prop} {Q0 : δ → Hp → Prop} (rs : RS K io S H) (re : RE K io H env σ) (h : bindR (f env S) k = some (r, S')) (hE : EndG K mg W relg io H r S' Q0)
    (hk : ∀ a S1 io1 H1 v, f env S = some (.ok a, S1) → Ext K io H io1 H1 → RS K io1 S1 H1 → RE K io1 H1 env σ → rel io1 H1 a v → k a S1 = some (r, S') → EndG K mg W relg io1 H1 r S' Q0 → Q v H1) : tG K mg W rel f σ H Q := by
  cases hf : f env S with
  | none =>
    rw [hf] at h
    cases h
  | some p =>
    obtain ⟨ra, S1⟩ := p
    rw [hf] at h
    cases ra with
    | ok a => exact ⟨io, S, env, .ok a, S1, rs, re, hf, fun io1 H1 v e rs1 rv => hk a S1 io1 H1 v hf e rs1 (re.mono e) rv h (hE.mono e)⟩
    | ex e =>
      cases h
      exact ⟨io, S, env, .ex e, _, rs, re, hf, hE⟩
theorem tG_bind {f : Ev → Sto → Ans α} {k : α → Sto → Ans γ} {r : R γ} {Q : β → Hp → Prop} {Q0 : δ → Hp → Prop} (rs : RS K io S H) (re : RE K io H env σ) (h : bindR (f env S) k = some (r, S')) (hE : EndG K mg W relg io H r S' Q0)
    (hk : ∀ a S1 io1 H1 v, Ext K io H io1 H1 → RS K io1 S1 H1 → RE K io1 H1 env σ → rel io1 H1 a v → k a S1 = some (r, S') → EndG K mg W relg io1 H1 r S' Q0 → Q v H1) : tG K mg W rel f σ H Q := by
  cases hf : f env S with
  | none =>
    rw [hf] at h
    cases h
  | some p =>
    obtain ⟨ra, S1⟩ := p
    rw [hf] at h
    cases ra with
    | ok a => exact ⟨io, S, env, .ok a, S1, rs, re, hf, fun io1 H1 v e rs1 rv => hk a S1 io1 H1 v e rs1 (re.mono e) rv h (hE.mono e)⟩
    | ex e =>
      cases h
      exact ⟨io, S, env, .ex e, _, rs, re, hf, hE⟩
/-- the same computation, weaker ends -/
theorem tG_imp {f : Ev → Sto → Ans α} {Q Q' : β → Hp → Prop} (h : tG K mg W rel f σ H Q) (w : ∀ v H, Q v H → Q' v H) : tG K mg W rel f σ H Q' := by
  obtain ⟨io, S, env, r, S', rs, re, hf, hE⟩ := h
  refine ⟨io, S, env, r, S', rs, re, hf, ?_⟩
  cases r with
  | ok d => exact fun io2 H2 v e2 r2 q => w _ _ (hE io2 H2 v e2 r2 q)
  | ex x => exact hE
theorem okO_some {x : Option (D × Sto)} {r : R D} (h : okO x = some (r, S')) : ∃ d, x = some (d, S') ∧ r = .ok d := by
  cases x with
  | none => cases h
  | some p =>
    obtain ⟨d, S1⟩ := p
    cases h
    exact ⟨d, rfl, rfl⟩
end

/-! ### weaker readings -/
section
variable {X : Cx}
theorem pe_weak {e : Expr} {t t' : TE} (h : PE X e t) (w : ∀ σ H Q, t' σ H Q → t σ H Q) : PE X e t' := ⟨fun pins s σ H Q I q => h.run pins s σ H Q I (w σ H Q q)⟩
theorem pt_weak {e : Expr} {t t' : TT} (h : PT X e t) (w : ∀ σ H Q, t' σ H Q → t σ H Q) : PT X e t' := ⟨fun pins s σ H Q I q => h.run pins s σ H Q I (w σ H Q q)⟩
theorem pw_weak {e : Expr} {t t' : TT} (h : PW X e t) (w : ∀ σ H Q, t' σ H Q → t σ H Q) : PW X e t' := ⟨fun wh pins s σ H Q I q => h.run wh pins s σ H Q I (w σ H Q q)⟩
theorem pa_weak {es : List Expr} {t t' : TA} (h : PA X es t) (w : ∀ σ H Q, t' σ H Q → t σ H Q) : PA X es t' := ⟨fun pos pins s σ H Q I q => h.run pos pins s σ H Q I (w σ H Q q)⟩
theorem ps_weak {st : Stmt} {t t' : TS} (h : PS X st t) (w : ∀ E σ H, t' E σ H → t E σ H) : PS X st t' := ⟨fun pins s σ H E I q => h.run pins s σ H E I (w E σ H q)⟩
theorem pss_weak {st : List Stmt} {t t' : TS} (h : PSs X st t) (w : ∀ E σ H, t' E σ H → t E σ H) : PSs X st t' := ⟨fun pins s σ H E I q => h.run pins s σ H E I (w E σ H q)⟩
theorem pi_weak {tg e : Expr} {t t' : TI} (h : PI X tg e t) (w : ∀ σ H Q, t' σ H Q → t σ H Q) : PI X tg e t' := ⟨fun pins s σ H Q I q => h.run pins s σ H Q I (w σ H Q q)⟩
theorem pi_or {tg e : Expr} {t t' : TI} (h : PI X tg e t) (h' : PI X tg e t') : PI X tg e (fun σ H Q => t σ H Q ∨ t' σ H Q) := ⟨fun pins s σ H Q I q => q.elim (h.run pins s σ H Q I) (h'.run pins s σ H Q I)⟩
end

/-! ### the judgements -/
abbrev DE (X : Cx) (W : XK) (e : Expr) (f : Ev → Sto → Ans D) : Prop := PE X e (tM X.K X.mg W f)
abbrev DT (X : Cx) (W : XK) (e : Expr) (f : Ev → Sto → Ans Bool) : Prop := PT X e (tMT X.K X.mg W f)
abbrev DW (X : Cx) (W : XK) (e : Expr) (f : Ev → Sto → Ans Bool) : Prop := PW X e (tMT X.K X.mg W f)
abbrev DA (X : Cx) (W : XK) (es : List Expr) (f : Ev → Sto → Ans (List D)) : Prop := PA X es (tMA X.K X.mg W f)
abbrev OpD (X : Cx) (f : Value → Value → Sem Value) (g : D → D → Sto → Option (D × Sto)) : Prop := OpR X f (rM X.K g)
abbrev UnD (X : Cx) (f : Value → Sem Value) (g : D → Sto → Option (D × Sto)) : Prop := UnR X f (rMU X.K g)
abbrev CallD (X : Cx) (f : Value) (g : List D → Sto → Option (D × Sto)) : Prop := CallR X f (rMC X.K g)
abbrev MtD (X : Cx) (id : String) (g : D → List D → Sto → Option (D × Sto)) : Prop := MtR X id (rMM X.K g)

/-! ### the computations -/
def dVar (i : Nat) : Ev → Sto → Ans D := fun env S => match env[i]? with
  | some (some d) => some (.ok d, S)
  | _ => none
def dC (d : D) : Ev → Sto → Ans D := fun _ S => some (.ok d, S)
def dOp (g : D → D → Sto → Option (D × Sto)) (fa fb : Ev → Sto → Ans D) : Ev → Sto → Ans D := fun env S =>
  bindR (fa env S) fun a S1 => bindR (fb env S1) fun b S2 => okO (g a b S2)
def dUn (g : D → Sto → Option (D × Sto)) (fa : Ev → Sto → Ans D) : Ev → Sto → Ans D := fun env S =>
  bindR (fa env S) fun a S1 => okO (g a S1)
def dNil : Ev → Sto → Ans (List D) := fun _ S => some (.ok [], S)
def dCons (fa : Ev → Sto → Ans D) (fr : Ev → Sto → Ans (List D)) : Ev → Sto → Ans (List D) := fun env S =>
  bindR (fa env S) fun a S1 => bindR (fr env S1) fun r S2 => some (.ok (a :: r), S2)
def dCB (g : List D → Sto → Option (D × Sto)) (fs : Ev → Sto → Ans (List D)) : Ev → Sto → Ans D := fun env S =>
  bindR (fs env S) fun ds S1 => okO (g ds S1)
def dMt (g : D → List D → Sto → Option (D × Sto)) (fo : Ev → Sto → Ans D) (fs : Ev → Sto → Ans (List D)) : Ev → Sto → Ans D := fun env S =>
  bindR (fo env S) fun a S1 => bindR (fs env S1) fun ds S2 => okO (g a ds S2)
def gTup : List D → Sto → Option (D × Sto) := fun ds S => if ds.length ≤ sizeLine then some (.tup ds, S) else none
def gLst : List D → Sto → Option (D × Sto) := fun ds S => if ds.length ≤ sizeLine then some (.ref S.length, S ++ [.lst ds]) else none
/-- the items of a list, a tuple -/
def seqOf (d : D) (S : Sto) : Option (List D) := match d with
  | .tup ds => some ds
  | .ref n => match S[n]? with
    | some (.lst ds) => some ds
    | some (.rol ds) => some ds
    | _ => none
  | _ => none
def truD (d : D) (S : Sto) : Option Bool := match d with
  | .non => some false
  | .bl b => some b
  | .int i => some (i != 0)
  | .str x => if x.length ≤ sizeLine then some ((x.length : Int) != 0) else none
  | d => (seqOf d S).map fun ds => !ds.isEmpty
def okT (x : Option Bool) (S : Sto) : Ans Bool := match x with
  | none => none
  | some b => some (.ok b, S)
def dTru (fa : Ev → Sto → Ans D) : Ev → Sto → Ans Bool := fun env S => bindR (fa env S) fun a S1 => okT (truD a S1) S1
def dAnd (fa fb : Ev → Sto → Ans Bool) : Ev → Sto → Ans Bool := fun env S => bindR (fa env S) fun a S1 => if a = true then fb env S1 else some (.ok false, S1)
def dOr (fa fb : Ev → Sto → Ans Bool) : Ev → Sto → Ans Bool := fun env S => bindR (fa env S) fun a S1 => if a = true then some (.ok true, S1) else fb env S1
def dNot (fa : Ev → Sto → Ans Bool) : Ev → Sto → Ans Bool := fun env S => bindR (fa env S) fun a S1 => some (.ok (!a), S1)
def dAndV (fa fb : Ev → Sto → Ans D) : Ev → Sto → Ans D := fun env S => bindR (fa env S) fun a S1 => bindR (okT (truD a S1) S1) fun c S1 => if c = true then fb env S1 else some (.ok a, S1)
def dOrV (fa fb : Ev → Sto → Ans D) : Ev → Sto → Ans D := fun env S => bindR (fa env S) fun a S1 => bindR (okT (truD a S1) S1) fun c S1 => if c = true then some (.ok a, S1) else fb env S1
def dNotV (fa : Ev → Sto → Ans D) : Ev → Sto → Ans D := fun env S => bindR (fa env S) fun a S1 => bindR (okT (truD a S1) S1) fun c S1 => some (.ok (.bl (!c)), S1)
def dIf (fc : Ev → Sto → Ans Bool) (fa fb : Ev → Sto → Ans D) : Ev → Sto → Ans D := fun env S => bindR (fc env S) fun c S1 => if c = true then fa env S1 else fb env S1

/-! ### the rules -/
section
variable {X : Cx} {W : XK} {a b e : Expr} {es rest : List Expr} {fa fb : Ev → Sto → Ans D} {fs : Ev → Sto → Ans (List D)} {pos : Pos}
theorem RV.seq {K : PySem.W.Frag} {io : List Addr} {S : Sto} {H : Hp} {d : D} {v : V} {ds : List D} (rs : RS K io S H) (r : RV K io H d v) (h : seqOf d S = some ds) : ∃ p vs, v = .ref p ∧ (SqL K H p vs ∨ SqT K H p vs) ∧ RVs K io H ds vs := by
  cases d with
  | tup es =>
    unfold RV at r
    obtain ⟨p, vs, e1, e2, e3⟩ := r
    cases h
    exact ⟨p, vs, e1, .inr e2, e3⟩
  | ref n =>
    have q : S[n]? = some (.lst ds) ∨ S[n]? = some (.rol ds) := by
      simp only [seqOf] at h
      split at h
      · cases h
        exact .inl (by assumption)
      · cases h
        exact .inr (by assumption)
      · cases h
    obtain ⟨p, vs, e1, _, e2, e3⟩ := rs.seq q r
    exact ⟨p, vs, e1, .inl e2, e3⟩
  | non => cases h
  | bl _ => cases h
  | int _ => cases h
  | str _ => cases h
theorem d_var (i : Nat) {x : Str} (hN : X.N[i]? = some x := by rfl) (hv : Vis X.env.scope x := by first | exact Or.inl rfl | exact Or.inr (Or.inl rfl) | exact Or.inr (Or.inr rfl)) (hd : (x == ("__debug__" : Str)) = false := by decide)
    (hcd : (x == ("__classdict__" : Str)) = false := by decide) : DE X W (.Name x pos) (dVar i) :=
  pe_weak (pe_var hN hv hd hcd) fun σ H Q ⟨io, S, env, r, S', rs, re, hf, hE⟩ => by
    unfold dVar at hf
    split at hf
    · rename_i d hd
      cases hf
      obtain ⟨v, e1, e2⟩ := re.get i d hd
      exact ⟨v, e1, hE.now rs e2⟩
    · cases hf
theorem d_int {i : Int} {j} : DE X W (.Constant (.int i) j pos) (dC (.int i)) := pe_weak pe_int fun σ H Q ⟨io, S, env, r, S', rs, re, hf, hE⟩ => by
  cases hf
  exact hE.now rs (by simp [RV])
theorem d_bl {i : Bool} {j} : DE X W (.Constant (.bool i) j pos) (dC (.bl i)) := pe_weak pe_bl fun σ H Q ⟨io, S, env, r, S', rs, re, hf, hE⟩ => by
  cases hf
  exact hE.now rs (by simp [RV])
theorem d_non {j} : DE X W (.Constant .none j pos) (dC .non) := pe_weak pe_non fun σ H Q ⟨io, S, env, r, S', rs, re, hf, hE⟩ => by
  cases hf
  exact hE.now rs (by simp [RV])
theorem d_str {x : Str} {j} : DE X W (.Constant (.str x) j pos) (dC (.str x)) := pe_weak pe_str fun σ H Q ⟨io, S, env, r, S', rs, re, hf, hE⟩ => by
  cases hf
  exact hE.now rs (by simp [RV])
theorem tOp_of {g : D → D → Sto → Option (D × Sto)} {K : PySem.W.Frag} {mg : Str → Option Value} {σ : L2.St} {H : Hp} {Q : VK} (h : tM K mg W (dOp g fa fb) σ H Q) : tOp (rM K g) (tM K mg W fa) (tM K mg W fb) σ H Q := by
  obtain ⟨io, S, env, r, S', rs, re, hf, hE⟩ := h
  refine tG_bind rs re hf hE fun x S1 io1 H1 v e1 rs1 re1 rv1 h1 hE1 => tG_bind rs1 re1 h1 hE1 fun y S2 io2 H2 w e2 rs2 re2 rv2 h2 hE2 => ?_
  obtain ⟨d, h3, rfl⟩ := okO_some h2
  exact ⟨io2, S2, x, y, d, S', rs2, RV.mono e2 x v rv1, rv2, h3, hE2⟩
theorem d_op {op : Operator} {g : D → D → Sto → Option (D × Sto)} (ho : OpD X (binaryOp op) g) (ha : DE X W a fa) (hb : DE X W b fb) : DE X W (.BinOp a op b pos) (dOp g fa fb) := pe_weak (pe_op ho ha hb) fun _ _ _ => tOp_of
theorem d_cmp {op : CmpOp} {g : D → D → Sto → Option (D × Sto)} (ho : OpD X (compareOp op) g) (ha : DE X W a fa) (hb : DE X W b fb) (hm : behindInMarks op b = false) : DE X W (.Compare a [op] [b] pos) (dOp g fa fb) := pe_weak (pe_cmpR ho ha hb hm) fun _ _ _ => tOp_of
theorem d_ix {g : D → D → Sto → Option (D × Sto)} (ho : IxR X (rM X.K g)) (ha : DE X W a fa) (hb : DE X W b fb) (hs : PlainIx b) : DE X W (.Subscript a b pos) (dOp g fa fb) := pe_weak (pe_ix ho ha hb hs) fun _ _ _ => tOp_of
theorem d_un {op : UnaryOp} {g : D → Sto → Option (D × Sto)} (ho : UnD X (unaryOp op) g) (ha : DE X W a fa) : DE X W (.UnaryOp op a pos) (dUn g fa) := pe_weak (pe_un ho ha) fun σ H Q ⟨io, S, env, r, S', rs, re, hf, hE⟩ =>
  tG_bind rs re hf hE fun x S1 io1 H1 v e1 rs1 re1 rv1 h1 hE1 => by
    obtain ⟨d, h2, rfl⟩ := okO_some h1
    exact ⟨io1, S1, x, d, S', rs1, rv1, h2, hE1⟩
theorem da_nil : DA X W [] dNil := pa_weak pa_nil fun σ H Q ⟨io, S, env, r, S', rs, re, hf, hE⟩ => by
  cases hf
  exact hE.now rs RVs.nil
theorem da_cons (ha : DE X W e fa) (hr : DA X W es fs) (hs : starEach (e :: es) X.env = (false, eval e X.env) :: starEach es X.env := by rfl) : DA X W (e :: es) (dCons fa fs) :=
  pa_weak (pa_cons ha hr hs) fun σ H Q ⟨io, S, env, r, S', rs, re, hf, hE⟩ =>
    tG_bind rs re hf hE fun x S1 io1 H1 v e1 rs1 re1 rv1 h1 hE1 => tG_bind rs1 re1 h1 hE1 fun y S2 io2 H2 w e2 rs2 re2 rv2 h2 hE2 => by
      cases h2
      exact hE2.now rs2 (RVs.cons (RV.mono e2 x v rv1) rv2)
theorem d_tup {x1} (h : DA X W es fs) : DE X W (.Tuple es x1 pos) (dCB gTup fs) := pe_weak (pe_tup h) fun σ H Q ⟨io, S, env, r, S', rs, re, hf, hE⟩ =>
  tG_bind rs re hf hE fun x S1 io1 H1 v e1 rs1 re1 rv1 h1 hE1 => by
    obtain ⟨d, h2, rfl⟩ := okO_some h1
    unfold gTup at h2
    split at h2
    · rename_i hl
      cases h2
      refine ⟨by rw [← rv1.length]; exact hl, fun p hp => hE1 io1 _ _ (Ext.fresh hp) (rs1.tupNew hp) ?_⟩
      unfold RV
      exact ⟨p, v, rfl, SqT.of upd_same, RVs.mono (Ext.fresh hp) x v rv1⟩
    · cases h2
theorem d_lst (h : DA X W es fs) : DE X W (.List es pos) (dCB gLst fs) := pe_weak (pe_lst h) fun σ H Q ⟨io, S, env, r, S', rs, re, hf, hE⟩ =>
  tG_bind rs re hf hE fun x S1 io1 H1 v e1 rs1 re1 rv1 h1 hE1 => by
    obtain ⟨d, h2, rfl⟩ := okO_some h1
    unfold gLst at h2
    split at h2
    · rename_i hl
      cases h2
      refine ⟨by rw [← rv1.length]; exact hl, fun p hp => hE1 _ _ _ (Ext.new hp) (rs1.lstNew hp rv1) ?_⟩
      unfold RV
      exact ⟨p, rs1.lastNew, rfl⟩
    · cases h2
theorem d_callB {x : Str} {p : Pos} {id : String} {g : List D → Sto → Option (D × Sto)} (hc : CallD X (.builtin id) g) (hg : Gl X x) (hm : X.mg x = none) (hv : bootBuiltins x = some (.builtin id)) (ha : DA X W (e :: es) fs) (hn : x ≠ "__name__" := by decide) (hdb : (x == ("__debug__" : Str)) = false := by decide)
    (he : starEach (e :: es) X.env = (false, eval e X.env) :: starEach es X.env := by rfl) (hpl : (backTo pos (starEach es X.env)).any (·.1) = false := by rfl) : DE X W (.Call (.Name x p) (e :: es) [] pos) (dCB g fs) :=
  pe_weak (pe_callB hc hg hm hv ha hn hdb he hpl) fun σ H Q ⟨io, S, env, r, S', rs, re, hf, hE⟩ =>
    tG_bind rs re hf hE fun x S1 io1 H1 v e1 rs1 re1 rv1 h1 hE1 => by
      obtain ⟨d, h2, rfl⟩ := okO_some h1
      exact ⟨io1, S1, x, d, S', rs1, rv1, h2, hE1⟩
theorem d_callTy {x : Str} {p : Pos} {T : String} {g : List D → Sto → Option (D × Sto)} (hc : CallD X (.type T) g) (hg : Gl X x) (hm : X.mg x = none) (hv : bootBuiltins x = some (.type T)) (ha : DA X W (e :: es) fs) (hn : x ≠ "__name__" := by decide) (hdb : (x == ("__debug__" : Str)) = false := by decide)
    (he : starEach (e :: es) X.env = (false, eval e X.env) :: starEach es X.env := by rfl) (hpl : (backTo pos (starEach es X.env)).any (·.1) = false := by rfl) : DE X W (.Call (.Name x p) (e :: es) [] pos) (dCB g fs) :=
  pe_weak (pe_callTy hc hg hm hv ha hn hdb he hpl) fun σ H Q ⟨io, S, env, r, S', rs, re, hf, hE⟩ =>
    tG_bind rs re hf hE fun x S1 io1 H1 v e1 rs1 re1 rv1 h1 hE1 => by
      obtain ⟨d, h2, rfl⟩ := okO_some h1
      exact ⟨io1, S1, x, d, S', rs1, rv1, h2, hE1⟩
/-! tests -/
theorem truV_of {K : PySem.W.Frag} {io : List Addr} {S : Sto} {H : Hp} {d : D} {v : V} {k : Bool} (rs : RS K io S H) (r : RV K io H d v) (h : truD d S = some k) : TruV K v H k := by
  have sq : ∀ {d : D}, RV K io H d v → (seqOf d S).map (fun ds => !ds.isEmpty) = some k → TruV K v H k := fun {d} r h => by
    cases hs : seqOf d S with
    | none => rw [hs] at h; cases h
    | some ds =>
      rw [hs] at h
      obtain ⟨p, vs, rfl, e2, e3⟩ := RV.seq rs r hs
      cases h
      have el : ds.isEmpty = vs.isEmpty := by
        have := e3.length
        cases ds <;> cases vs <;> simp_all
      show (∃ xs, SqL K H p xs ∧ (!ds.isEmpty) = !xs.isEmpty) ∨ (∃ xs, SqT K H p xs ∧ (!ds.isEmpty) = !xs.isEmpty) ∨ _
      rw [el]
      rcases e2 with e2 | e2
      · exact .inl ⟨vs, e2, rfl⟩
      · exact .inr (.inl ⟨vs, e2, rfl⟩)
  cases d with
  | non => unfold RV at r; subst r; cases h; rfl
  | bl _ => unfold RV at r; subst r; cases h; rfl
  | int _ => unfold RV at r; subst r; cases h; rfl
  | str x =>
    unfold RV at r
    subst r
    unfold truD at h
    split at h <;> try (rename_i e; cases e)
    · split at h
      · rename_i hl
        cases h
        exact ⟨hl, rfl⟩
      · cases h
    · rename_i h1 _ _; simp at *
  | tup ds => exact sq r h
  | ref n => exact sq r h
theorem okT_some {x : Option Bool} {S S' : Sto} {r : R Bool} (h : okT x S = some (r, S')) : ∃ b, x = some b ∧ r = .ok b ∧ S' = S := by
  cases x with
  | none => cases h
  | some b =>
    cases h
    exact ⟨b, rfl, rfl, rfl⟩
theorem dt_of (ha : DE X W a fa) (he : ∀ whole, isTrue a X.env whole = (do let v ← whole; standAt a.pos; holding [v] (truthy v)) := by intro _; rfl) : DT X W a (dTru fa) :=
  pt_weak (pt_truth ha he) fun σ H Q ⟨io, S, env, r, S', rs, re, hf, hE⟩ =>
    tG_bind rs re hf hE fun x S1 io1 H1 v e1 rs1 re1 rv1 h1 hE1 => by
      obtain ⟨k, h2, rfl, rfl⟩ := okT_some h1
      exact ⟨k, truV_of rs1 rv1 h2, hE1.now rs1 rfl⟩
/-- a comparison as a test -/
def blOf (d : D) : Option Bool := match d with
  | .bl b => some b
  | _ => none
def dBl (fa : Ev → Sto → Ans D) : Ev → Sto → Ans Bool := fun env S => bindR (fa env S) fun a S1 => okT (blOf a) S1
theorem dt_cmp {op : CmpOp} {g : D → D → Sto → Option (D × Sto)} (ho : OpD X (compareOp op) g) (ha : DE X W a fa) (hb : DE X W b fb) (hm : behindInMarks op b = false) : DT X W (.Compare a [op] [b] pos) (dBl (dOp g fa fb)) :=
  pt_weak (pt_cmpR ho ha hb hm) fun σ H Q ⟨io, S, env, r, S', rs, re, hf, hE⟩ => tOp_of (tG_bind rs re hf hE fun x S1 io1 H1 v e1 rs1 re1 rv1 h1 hE1 => by
      obtain ⟨k, h2, rfl, rfl⟩ := okT_some h1
      cases x <;> first | cases h2 | skip
      unfold RV at rv1
      subst rv1
      exact ⟨_, rfl, hE1.now rs1 rfl⟩)
variable {ga gb : Ev → Sto → Ans Bool}
theorem dt_not (ha : DT X W a ga) : DT X W (.UnaryOp .Not a pos) (dNot ga) := pt_weak (pt_not ha) fun σ H Q ⟨io, S, env, r, S', rs, re, hf, hE⟩ =>
  tG_bind rs re hf hE fun x S1 io1 H1 v e1 rs1 re1 rv1 h1 hE1 => by
    cases h1
    cases rv1
    exact hE1.now rs1 rfl
theorem dw_and1 (ha : DT X W a ga) : DW X W (.BoolOp .And [a] pos) ga := pw_and1 ha
theorem dw_or1 (ha : DT X W a ga) : DW X W (.BoolOp .Or [a] pos) ga := pw_or1 ha
theorem dw_and (ha : DT X W a ga) (hb : DW X W (.BoolOp .And (b :: rest) pos) gb) : DW X W (.BoolOp .And (a :: b :: rest) pos) (dAnd ga gb) := pw_weak (pw_and ha hb) fun σ H Q ⟨io, S, env, r, S', rs, re, hf, hE⟩ =>
  tG_bind rs re hf hE fun x S1 io1 H1 v e1 rs1 re1 rv1 h1 hE1 => by
    cases rv1
    cases x with
    | true => exact ⟨io1, S1, env, r, S', rs1, re1, h1, hE1⟩
    | false =>
      cases h1
      exact hE1.now rs1 rfl
theorem dw_or (ha : DT X W a ga) (hb : DW X W (.BoolOp .Or (b :: rest) pos) gb) : DW X W (.BoolOp .Or (a :: b :: rest) pos) (dOr ga gb) := pw_weak (pw_or ha hb) fun σ H Q ⟨io, S, env, r, S', rs, re, hf, hE⟩ =>
  tG_bind rs re hf hE fun x S1 io1 H1 v e1 rs1 re1 rv1 h1 hE1 => by
    cases rv1
    cases x with
    | false => exact ⟨io1, S1, env, r, S', rs1, re1, h1, hE1⟩
    | true =>
      cases h1
      exact hE1.now rs1 rfl
theorem dt_w (h : DW X W a ga) : DT X W a ga := h.pt
/-! and, or, not as values -/
theorem d_one {op} (h : DE X W a fa) : DE X W (.BoolOp op [a] pos) fa := pe_one h
theorem d_and (ha : DE X W a fa) (hb : DE X W (.BoolOp .And (b :: rest) pos) fb) : DE X W (.BoolOp .And (a :: b :: rest) pos) (dAndV fa fb) := pe_weak (pe_andT ha hb) fun σ H Q ⟨io, S, env, r, S', rs, re, hf, hE⟩ =>
  tG_bind rs re hf hE fun x S1 io1 H1 v e1 rs1 re1 rv1 h1 hE1 => by
    cases ht : truD x S1 with
    | none => rw [ht] at h1; cases h1
    | some k =>
      rw [ht] at h1
      refine ⟨k, truV_of rs1 rv1 ht, ?_⟩
      cases k with
      | true => exact ⟨io1, S1, env, r, S', rs1, re1, h1, hE1⟩
      | false =>
        cases h1
        exact hE1.now rs1 rv1
theorem d_or (ha : DE X W a fa) (hb : DE X W (.BoolOp .Or (b :: rest) pos) fb) : DE X W (.BoolOp .Or (a :: b :: rest) pos) (dOrV fa fb) := pe_weak (pe_orT ha hb) fun σ H Q ⟨io, S, env, r, S', rs, re, hf, hE⟩ =>
  tG_bind rs re hf hE fun x S1 io1 H1 v e1 rs1 re1 rv1 h1 hE1 => by
    cases ht : truD x S1 with
    | none => rw [ht] at h1; cases h1
    | some k =>
      rw [ht] at h1
      refine ⟨k, truV_of rs1 rv1 ht, ?_⟩
      cases k with
      | false => exact ⟨io1, S1, env, r, S', rs1, re1, h1, hE1⟩
      | true =>
        cases h1
        exact hE1.now rs1 rv1
theorem d_not (ha : DE X W a fa) : DE X W (.UnaryOp .Not a pos) (dNotV fa) := pe_weak (pe_notT ha) fun σ H Q ⟨io, S, env, r, S', rs, re, hf, hE⟩ =>
  tG_bind rs re hf hE fun x S1 io1 H1 v e1 rs1 re1 rv1 h1 hE1 => by
    cases ht : truD x S1 with
    | none => rw [ht] at h1; cases h1
    | some k =>
      rw [ht] at h1
      cases h1
      exact ⟨k, truV_of rs1 rv1 ht, hE1.now rs1 (by simp [RV])⟩
theorem d_if {c : Expr} {gc : Ev → Sto → Ans Bool} (hc : DT X W c gc) (ha : DE X W a fa) (hb : DE X W b fb) : DE X W (.IfExp c a b pos) (dIf gc fa fb) := pe_weak (pe_ifExp hc ha hb) fun σ H Q ⟨io, S, env, r, S', rs, re, hf, hE⟩ =>
  tG_bind rs re hf hE fun x S1 io1 H1 v e1 rs1 re1 rv1 h1 hE1 => by
    cases rv1
    cases x with
    | true => exact ⟨io1, S1, env, r, S', rs1, re1, h1, hE1⟩
    | false => exact ⟨io1, S1, env, r, S', rs1, re1, h1, hE1⟩
end
end DL
namespace DL
open PySem PySem.Spec PyProof.Rows L2

/-! ### statements -/
inductive Out where
  | nx | rt (d : D) | bk | ct | ex (e : Exn)
abbrev AnsS := Option (Out × Ev × Sto)
def bindS {α : Type} (x : Ans α) (env : Ev) (k : α → Sto → AnsS) : AnsS := match x with
  | none => none
  | some (.ex e, S) => some (.ex e, env, S)
  | some (.ok a, S) => k a S
section
variable (K : PySem.W.Frag) (mg : Str → Option Value) (W : XK)
def EndS (io : List Addr) (H : Hp) (o : Out) (env' : Ev) (S' : Sto) (E : Ends) : Prop := match o with
  | .nx => ∀ io' H' σ', Ext K io H io' H' → RS K io' S' H' → RE K io' H' env' σ' → E.nx σ' H'
  | .bk => ∀ io' H' σ', Ext K io H io' H' → RS K io' S' H' → RE K io' H' env' σ' → E.bk σ' H'
  | .ct => ∀ io' H' σ', Ext K io H io' H' → RS K io' S' H' → RE K io' H' env' σ' → E.ct σ' H'
  | .rt d => ∀ io' H' v, Ext K io H io' H' → RS K io' S' H' → RV K io' H' d v → E.rt v H'
  | .ex e => ∀ io' H' c dd, Ext K io H io' H' → RS K io' S' H' → RX K mg io' H' e c dd → W c dd H'
def tS (f : Ev → Sto → AnsS) : TS := fun E σ H => ∃ io S env o env' S', RS K io S H ∧ RE K io H env σ ∧ f env S = some (o, env', S') ∧ EndS K mg W io H o env' S' E
/-- a store o[i] = v, from one on data -/
def rMSet (g : D → D → D → Sto → Option Sto) : TSet := fun o i v H Q => ∃ io S a b d S', RS K io S H ∧ RV K io H a o ∧ RV K io H b i ∧ RV K io H d v ∧ g a b d S = some S' ∧ ∀ io' H', Ext K io H io' H' → RS K io' S' H' → Q H'
end
abbrev DS (X : Cx) (W : XK) (st : Stmt) (f : Ev → Sto → AnsS) : Prop := PS X st (tS X.K X.mg W f)
abbrev DSs (X : Cx) (W : XK) (st : List Stmt) (f : Ev → Sto → AnsS) : Prop := PSs X st (tS X.K X.mg W f)
abbrev SetD (X : Cx) (g : D → D → D → Sto → Option Sto) : Prop := PSet X (rMSet X.K g)

section
variable {K : PySem.W.Frag} {mg : Str → Option Value} {W : XK} {α β : Type} {rel : List Addr → Hp → α → β → Prop} {io io' : List Addr} {H H' : Hp} {S S' : Sto} {σ : L2.St} {env env' : Ev} {o : Out}
theorem EndS.mono {E : Ends} (h : EndS K mg W io H o env' S' E) (e : Ext K io H io' H') : EndS K mg W io' H' o env' S' E := by
  cases o with
  | nx => exact fun io2 H2 v e2 => h io2 H2 v (e.trans e2)
  | bk => exact fun io2 H2 v e2 => h io2 H2 v (e.trans e2)
  | ct => exact fun io2 H2 v e2 => h io2 H2 v (e.trans e2)
  | rt d => exact fun io2 H2 v e2 => h io2 H2 v (e.trans e2)
  | ex x => exact fun io2 H2 c dd e2 => h io2 H2 c dd (e.trans e2)
theorem tG_bindS {f : Ev → Sto → Ans α} {k : α → Sto → AnsS} {Q : β → Hp → Prop} {E : Ends} (rs : RS K io S H) (re : RE K io H env σ) (h : bindS (f env S) env k = some (o, env', S')) (hE : EndS K mg W io H o env' S' E)
    (hk : ∀ a S1 io1 H1 v, f env S = some (.ok a, S1) → Ext K io H io1 H1 → RS K io1 S1 H1 → RE K io1 H1 env σ → rel io1 H1 a v → k a S1 = some (o, env', S') → EndS K mg W io1 H1 o env' S' E → Q v H1) : tG K mg W rel f σ H Q := by
  cases hf : f env S with
  | none =>
    rw [hf] at h
    cases h
  | some p =>
    obtain ⟨ra, S1⟩ := p
    rw [hf] at h
    cases ra with
    | ok a => exact ⟨io, S, env, .ok a, S1, rs, re, hf, fun io1 H1 v e rs1 rv => hk a S1 io1 H1 v hf e rs1 (re.mono e) rv h (hE.mono e)⟩
    | ex e =>
      cases h
      exact ⟨io, S, env, .ex e, _, rs, re, hf, hE⟩
end

/-! ### targets -/
inductive Tg where
  | nm (i : Nat) | tp (l : List Tg)
mutual
def Tg.put : Tg → D → Ev → Option Ev
  | .nm i, d, env => some (env.set i (some d))
  | .tp l, .tup ds, env => Tg.puts l ds env
  | .tp _, _, _ => none
def Tg.puts : List Tg → List D → Ev → Option Ev
  | [], [], env => some env
  | t :: ts, d :: ds, env => match Tg.put t d env with
    | some env1 => Tg.puts ts ds env1
    | none => none
  | _, _, _ => none
end
mutual
def Tg.slots : Tg → List Nat
  | .nm i => [i]
  | .tp l => Tg.slotss l
def Tg.slotss : List Tg → List Nat
  | [] => []
  | t :: ts => Tg.slots t ++ Tg.slotss ts
end
theorem Tg.puts_len : ∀ {l : List Tg} {ds : List D} {env env' : Ev}, Tg.puts l ds env = some env' → ds.length = l.length
  | [], [], _, _, _ => rfl
  | t :: ts, d :: ds, env, env', h => by
    unfold Tg.puts at h
    split at h
    · simpa using Tg.puts_len h
    · cases h
  | [], _ :: _, _, _, h => by simp [Tg.puts] at h
  | _ :: _, [], _, _, h => by simp [Tg.puts] at h
section
variable (K : PySem.W.Frag)
def tTg (t : Tg) : TG := fun v σ H Q => ∃ io env d env', RE K io H env σ ∧ RV K io H d v ∧ t.put d env = some env' ∧ ∀ σ', RE K io H env' σ' → (∀ j, j ∉ t.slots → σ'[j]? = σ[j]?) → σ'.length = σ.length → Q σ' H
def tTgs (t : List Tg) : TGs := fun vs σ H Q => ∃ io env ds env', RE K io H env σ ∧ RVs K io H ds vs ∧ Tg.puts t ds env = some env' ∧ ∀ σ', RE K io H env' σ' → (∀ j, j ∉ Tg.slotss t → σ'[j]? = σ[j]?) → σ'.length = σ.length → Q σ' H
end
section
variable {X : Cx} {pos : Pos}
theorem pg_weak {tg : Expr} {t t' : TG} (h : PG X tg t) (w : ∀ v σ H Q, t' v σ H Q → t v σ H Q) : PG X tg t' := ⟨fun pins s σ H v u Q I r q => h.run pins s σ H v u Q I r (w v σ H Q q)⟩
theorem pgs_weak {tg : List Expr} {t t' : TGs} (h : PGs X tg t) (w : ∀ v σ H Q, t' v σ H Q → t v σ H Q) : PGs X tg t' := ⟨fun pins s σ H v u Q I r q => h.run pins s σ H v u Q I r (w v σ H Q q)⟩
theorem dg_name {i : Nat} {x : Str} (hN : X.N.Nodup) (hi : X.N[i]? = some x) (hx : Loc X.env.scope x) (hf : X.fn x = true ∨ X.env.scope.names.lookup x = some .local := by first | exact .inl rfl | exact .inr rfl | assumption) : PG X (.Name x pos) (tTg X.K (.nm i)) :=
  pg_weak (pg_name hN hi hx hf) fun v σ H Q ⟨io, env, d, env', re, rv, hp, q⟩ => by
    unfold Tg.put at hp
    cases hp
    refine q _ (re.set i rv) (fun j hj => List.getElem?_set_ne fun z => hj ?_) (by simp)
    simp [Tg.slots, z]
theorem dgs_nil : PGs X [] (tTgs X.K []) := pgs_weak pgs_nil fun vs σ H Q ⟨io, env, ds, env', re, rv, hp, q⟩ => by
  have e := Tg.puts_len hp
  cases ds with
  | cons _ _ => simp at e
  | nil =>
    unfold RVs at rv
    unfold Tg.puts at hp
    cases hp
    exact ⟨rv, q σ re (fun _ _ => rfl) rfl⟩
theorem dgs_cons {e : Expr} {es : List Expr} {t : Tg} {ts : List Tg} (h1 : PG X e (tTg X.K t)) (h2 : PGs X es (tTgs X.K ts))
    (hs : (assignEach (e :: es) X.env).map (·.2) = assign e X.env :: (assignEach es X.env).map (·.2) := by rfl) : PGs X (e :: es) (tTgs X.K (t :: ts)) :=
  pgs_weak (pgs_cons h1 h2 hs) fun vs σ H Q ⟨io, env, ds, env', re, rv, hp, q⟩ => by
    cases ds with
    | nil => simp [Tg.puts] at hp
    | cons d ds =>
      unfold RVs at rv
      obtain ⟨v, r, rfl, rv1, rv2⟩ := rv
      unfold Tg.puts at hp
      split at hp
      · rename_i env1 h1
        refine ⟨v, r, rfl, io, env, d, env1, re, rv1, h1, fun σ1 re1 f1 l1 => ⟨io, env1, ds, env', re1, rv2, hp, fun σ2 re2 f2 l2 => q σ2 re2 (fun j hj => ?_) (l2.trans l1)⟩⟩
        have hj' : j ∉ t.slots ∧ j ∉ Tg.slotss ts := by simpa [Tg.slotss] using hj
        exact (f2 j hj'.2).trans (f1 j hj'.1)
      · cases hp
theorem dg_tup {es : List Expr} {k : Nat} {ts : List Tg} (hc : X.calm = true) (h : PGs X es (tTgs X.K ts)) (hl : ts.length = es.length := by rfl)
    (hn : (assignEach es X.env).length = es.length := by rfl) (hst : (assignEach es X.env).findIdx? (·.1) = none := by rfl) : PG X (.Tuple es k pos) (tTg X.K (.tp ts)) :=
  pg_weak (pg_tup hc h hn hst) fun v σ H Q ⟨io, env, d, env', re, rv, hp, q⟩ => by
    cases d with
    | tup ds =>
      unfold RV at rv
      obtain ⟨a, vs, rfl, h1, h2⟩ := rv
      unfold Tg.put at hp
      exact ⟨a, vs, rfl, h1, by rw [← h2.length, Tg.puts_len hp, hl], io, env, ds, env', re, h2, hp, fun σ' re' f l => q σ' re' (by simpa [Tg.slots] using f) l⟩
    | non => simp [Tg.put] at hp
    | bl _ => simp [Tg.put] at hp
    | int _ => simp [Tg.put] at hp
    | str _ => simp [Tg.put] at hp
    | ref _ => simp [Tg.put] at hp
end

/-! ### the computations -/
def sNext : Ev → Sto → AnsS := fun env S => some (.nx, env, S)
def sBreak : Ev → Sto → AnsS := fun env S => some (.bk, env, S)
def sCont : Ev → Sto → AnsS := fun env S => some (.ct, env, S)
def sSeq (f g : Ev → Sto → AnsS) : Ev → Sto → AnsS := fun env S => match f env S with
  | some (.nx, env1, S1) => g env1 S1
  | x => x
def sAsg (t : Tg) (fe : Ev → Sto → Ans D) : Ev → Sto → AnsS := fun env S => bindS (fe env S) env fun d S1 => match t.put d env with
  | some env1 => some (.nx, env1, S1)
  | none => none
def sSub (g : D → D → D → Sto → Option Sto) (fe fo fi : Ev → Sto → Ans D) : Ev → Sto → AnsS := fun env S => bindS (fe env S) env fun d S1 => bindS (fo env S1) env fun o S2 => bindS (fi env S2) env fun i S3 => match g o i d S3 with
  | some S4 => some (.nx, env, S4)
  | none => none
def sAug (i : Nat) (g : D → D → Sto → Option (D × Sto)) (fe : Ev → Sto → Ans D) : Ev → Sto → AnsS := fun env S => match env[i]? with
  | some (some x) => bindS (fe env S) env fun y S1 => match g x y S1 with
    | some (z, S2) => some (.nx, env.set i (some z), S2)
    | none => none
  | _ => none
def sAugS (gg gp : D → D → Sto → Option (D × Sto)) (gs : D → D → D → Sto → Option Sto) (fo fi fe : Ev → Sto → Ans D) : Ev → Sto → AnsS := fun env S =>
  bindS (fo env S) env fun o S1 => bindS (fi env S1) env fun i S2 => bindS (okO (gg o i S2)) env fun x S3 => bindS (fe env S3) env fun y S4 => bindS (okO (gp x y S4)) env fun z S5 => match gs o i z S5 with
  | some S6 => some (.nx, env, S6)
  | none => none
def sExpr (fe : Ev → Sto → Ans D) : Ev → Sto → AnsS := fun env S => bindS (fe env S) env fun _ S1 => some (.nx, env, S1)
def sRet (fe : Ev → Sto → Ans D) : Ev → Sto → AnsS := fun env S => bindS (fe env S) env fun d S1 => some (.rt d, env, S1)
def sRetN : Ev → Sto → AnsS := fun env S => some (.rt .non, env, S)
def sIf (fc : Ev → Sto → Ans Bool) (f g : Ev → Sto → AnsS) : Ev → Sto → AnsS := fun env S => bindS (fc env S) env fun c S1 => if c = true then f env S1 else g env S1
def whileD (fc : Ev → Sto → Ans Bool) (fb : Ev → Sto → AnsS) : Nat → Ev → Sto → AnsS
  | 0, _, _ => none
  | n + 1, env, S => bindS (fc env S) env fun c S1 => if c = true then match fb env S1 with
      | some (.nx, env2, S2) => whileD fc fb n env2 S2
      | some (.ct, env2, S2) => whileD fc fb n env2 S2
      | some (.bk, env2, S2) => some (.nx, env2, S2)
      | x => x
    else some (.nx, env, S1)
def sWhile (n : Nat) (fc : Ev → Sto → Ans Bool) (fb : Ev → Sto → AnsS) : Ev → Sto → AnsS := whileD fc fb n
/-- what a loop walks: its items, as long as ok holds -/
structure Wk where
  ok : Sto → Prop
  items : List D
open Classical in
noncomputable def forD (ok : Sto → Prop) (t : Tg) (fb : Ev → Sto → AnsS) : List D → Ev → Sto → AnsS
  | [], env, S => if ok S then some (.nx, env, S) else none
  | x :: xs, env, S => if ok S then match t.put x env with
      | none => none
      | some env1 => match fb env1 S with
        | some (.nx, env2, S2) => forD ok t fb xs env2 S2
        | some (.ct, env2, S2) => forD ok t fb xs env2 S2
        | some (.bk, env2, S2) => some (.nx, env2, S2)
        | y => y
    else none
noncomputable def sFor (fi : Ev → Sto → Ans Wk) (t : Tg) (fb : Ev → Sto → AnsS) : Ev → Sto → AnsS := fun env S => bindS (fi env S) env fun w S1 => forD w.ok t fb w.items env S1

section
variable (K : PySem.W.Frag) (mg : Str → Option Value) (W : XK)
def ItOk (io0 : List Addr) (H0 : Hp) (w : Wk) (J : It) : Prop := ∀ (i : Nat) (io : List Addr) (S : Sto) (H : Hp), Ext K io0 H0 io H → RS K io S H → w.ok S →
  (w.items.length ≤ i → J.stop i H) ∧ ∀ x, w.items[i]? = some x → J.go i H ∧ ∀ v H', J.yld i H v H' → ∃ io', Ext K io H io' H' ∧ RS K io' S H' ∧ RV K io' H' x v
def tIM (fi : Ev → Sto → Ans Wk) : TI := tG K mg W (ItOk K) fi
end
abbrev DI (X : Cx) (W : XK) (tg e : Expr) (fi : Ev → Sto → Ans Wk) : Prop := PI X tg e (tIM X.K X.mg W fi)

/-! ### the rules -/
section
variable {X : Cx} {W : XK} {st : Stmt} {rest : List Stmt} {e a b : Expr} {f g : Ev → Sto → AnsS} {fe fo fi : Ev → Sto → Ans D} {pos : Pos}
theorem dss_nil : DSs X W [] sNext := pss_weak pss_nil fun E σ H ⟨io, S, env, o, env', S', rs, re, hf, hE⟩ => by
  cases hf
  exact hE io H σ Ext.refl rs re
theorem dss_cons (h1 : DS X W st f) (h2 : DSs X W rest g) : DSs X W (st :: rest) (sSeq f g) := pss_weak (pss_cons h1 h2) fun E σ H ⟨io, S, env, o, env', S', rs, re, hf, hE⟩ => by
  unfold sSeq at hf
  cases h : f env S with
  | none =>
    rw [h] at hf
    cases hf
  | some p =>
    obtain ⟨o1, env1, S1⟩ := p
    rw [h] at hf
    cases o1 with
    | nx => exact ⟨io, S, env, .nx, env1, S1, rs, re, h, fun io1 H1 σ1 e1 rs1 re1 => ⟨io1, S1, env1, o, env', S', rs1, re1, hf, hE.mono e1⟩⟩
    | rt d => cases hf; exact ⟨io, S, env, _, _, _, rs, re, h, hE⟩
    | bk => cases hf; exact ⟨io, S, env, _, _, _, rs, re, h, hE⟩
    | ct => cases hf; exact ⟨io, S, env, _, _, _, rs, re, h, hE⟩
    | ex x => cases hf; exact ⟨io, S, env, _, _, _, rs, re, h, hE⟩
theorem dss_one (h1 : DS X W st f) : DSs X W [st] f := pss_one h1
theorem ds_pass : DS X W (.Pass pos) sNext := ps_weak ps_pass fun E σ H ⟨io, S, env, o, env', S', rs, re, hf, hE⟩ => by
  cases hf
  exact hE io H σ Ext.refl rs re
theorem ds_break : DS X W (.Break pos) sBreak := ps_weak ps_break fun E σ H ⟨io, S, env, o, env', S', rs, re, hf, hE⟩ => by
  cases hf
  exact hE io H σ Ext.refl rs re
theorem ds_continue : DS X W (.Continue pos) sCont := ps_weak ps_continue fun E σ H ⟨io, S, env, o, env', S', rs, re, hf, hE⟩ => by
  cases hf
  exact hE io H σ Ext.refl rs re
theorem ds_set {i : Nat} {x : Str} {pos' : Pos} (hN : X.N.Nodup) (hi : X.N[i]? = some x) (hx : Loc X.env.scope x) (he : DE X W e fe) (hs : swapsWith e (some (.Name x pos')) pos.line X.env = pure false := by rfl) (hf : X.fn x = true ∨ X.env.scope.names.lookup x = some .local := by first | exact .inl rfl | exact .inr rfl | assumption) :
    DS X W (.Assign [.Name x pos'] e pos) (sAsg (.nm i) fe) := ps_weak (ps_set hN hi hx he hs hf) fun E σ H ⟨io, S, env, o, env', S', rs, re, hf, hE⟩ =>
  tG_bindS rs re hf hE fun d S1 io1 H1 v _ e1 rs1 re1 rv h1 hE1 => by
    simp only [Tg.put] at h1
    cases h1
    exact hE1 io1 H1 _ Ext.refl rs1 (re1.set i rv)
theorem ds_asg {tg : Expr} {t : Tg} (he : DE X W e fe) (hg : PG X tg (tTg X.K t)) (hs : swapsWithSole [tg] e pos.line X.env = pure false := by rfl) (hw : swappedStores [tg] e X.env = pure none := by rfl)
    (h1 : (assignEach [tg] X.env).map (·.2) = [assign tg X.env] := by rfl) : DS X W (.Assign [tg] e pos) (sAsg t fe) := ps_weak (ps_asg he hg hs hw h1) fun E σ H ⟨io, S, env, o, env', S', rs, re, hf, hE⟩ =>
  tG_bindS rs re hf hE fun d S1 io1 H1 v _ e1 rs1 re1 rv h1 hE1 => by
    cases hp : t.put d env with
    | none =>
      rw [hp] at h1
      cases h1
    | some env1 =>
      rw [hp] at h1
      cases h1
      exact ⟨io1, env, d, _, re1, rv, hp, fun σ' re' _ _ => hE1 io1 H1 σ' Ext.refl rs1 re'⟩
theorem ds_sub {oe ie : Expr} {p : Pos} {gs : D → D → D → Sto → Option Sto} (hs' : SetD X gs) (he : DE X W e fe) (ho : DE X W oe fo) (hi : DE X W ie fi)
    (ha : ∀ v, assign (.Subscript oe ie p) X.env v = (do
      let ov ← holding [v] (eval oe X.env)
      let iv ← holding [v, ov] (eval ie X.env)
      standAt p
      holding [v, ov, iv] (setItem ov iv v)
      release [v, ov, iv] []) := by intro _; rfl) (hs : swapsWithSole [.Subscript oe ie p] e pos.line X.env = pure false := by rfl) (hw : swappedStores [.Subscript oe ie p] e X.env = pure none := by rfl)
    (h1 : (assignEach [.Subscript oe ie p] X.env).map (·.2) = [assign (.Subscript oe ie p) X.env] := by rfl) : DS X W (.Assign [.Subscript oe ie p] e pos) (sSub gs fe fo fi) := ps_weak (ps_asg he (pg_sub ho hi hs' ha) hs hw h1) fun E σ H ⟨io, S, env, o, env', S', rs, re, hf, hE⟩ =>
  tG_bindS rs re hf hE fun d S1 io1 H1 v _ e1 rs1 re1 rv h1 hE1 => tG_bindS rs1 re1 h1 hE1 fun o2 S2 io2 H2 v2 _ e2 rs2 re2 rv2 h2 hE2 => tG_bindS rs2 re2 h2 hE2 fun i3 S3 io3 H3 v3 _ e3 rs3 re3 rv3 h3 hE3 => by
    cases hp : gs o2 i3 d S3 with
    | none =>
      rw [hp] at h3
      cases h3
    | some S4 =>
      rw [hp] at h3
      cases h3
      exact ⟨io3, S3, o2, i3, d, _, rs3, RV.mono e3 _ _ rv2, rv3, RV.mono (e2.trans e3) _ _ rv, hp, fun io4 H4 e4 rs4 => hE3 io4 H4 σ e4 rs4 (re3.mono e4)⟩
theorem ds_aug {i : Nat} {x : Str} {op : Operator} {g : D → D → Sto → Option (D × Sto)} {pos' : Pos} (hN : X.N.Nodup) (hi : X.N[i]? = some x) (hx : Loc X.env.scope x) (ho : OpD X (inplaceOp op) g) (he : DE X W e fe) (hf : X.fn x = true ∨ X.env.scope.names.lookup x = some .local := by first | exact .inl rfl | exact .inr rfl | assumption) :
    DS X W (.AugAssign (.Name x pos') op e pos) (sAug i g fe) := ps_weak (ps_aug (ti := rM X.K g) hN hi hx he ho hf) fun E σ H ⟨io, S, env, o, env', S', rs, re, hf, hE⟩ => by
  unfold sAug at hf
  split at hf
  · rename_i d hd
    obtain ⟨u, hu1, hu2⟩ := re.get i d hd
    refine ⟨u, hu1, tG_bindS rs re hf hE fun y S1 io1 H1 v _ e1 rs1 re1 rv h1 hE1 => ?_⟩
    cases hp : g d y S1 with
    | none =>
      rw [hp] at h1
      cases h1
    | some q =>
      obtain ⟨z, S2⟩ := q
      rw [hp] at h1
      cases h1
      exact ⟨io1, S1, d, y, z, _, rs1, RV.mono e1 _ _ hu2, rv, hp, fun io2 H2 v2 e2 rs2 rv2 => hE1 io2 H2 _ e2 rs2 ((re1.mono e2).set i rv2)⟩
  · cases hf
theorem ds_augS {oe ie : Expr} {tpos : Pos} {op : Operator} {gg gp : D → D → Sto → Option (D × Sto)} {gs : D → D → D → Sto → Option Sto} (hg : OpD X getItem gg) (hp : OpD X (inplaceOp op) gp) (hs : SetD X gs) (ho : DE X W oe fo) (hi : DE X W ie fi) (he : DE X W e fe)
    (ha : ∀ ov iv new, augStore ie ov iv new = (do holding [new, ov, iv] (setItem ov iv new); release [new, ov, iv] []; pure .next) := by intros; rfl) : DS X W (.AugAssign (.Subscript oe ie tpos) op e pos) (sAugS gg gp gs fo fi fe) :=
  ps_weak (ps_augS (tget := rM X.K gg) (tip := rM X.K gp) ho hi hg he hp hs ha) fun E σ H ⟨io, S, env, o, env', S', rs, re, hf, hE⟩ =>
    tG_bindS rs re hf hE fun o1 S1 io1 H1 v1 _ e1 rs1 re1 rv1 h1 hE1 => tG_bindS rs1 re1 h1 hE1 fun i2 S2 io2 H2 v2 _ e2 rs2 re2 rv2 h2 hE2 => by
      cases hx : gg o1 i2 S2 with
      | none => rw [hx] at h2; cases h2
      | some p =>
        obtain ⟨x, S3⟩ := p
        rw [hx] at h2
        refine ⟨io2, S2, o1, i2, x, S3, rs2, RV.mono e2 _ _ rv1, rv2, hx, fun io3 H3 v3 e3 rs3 rv3 => tG_bindS rs3 (re2.mono e3) h2 (hE2.mono e3) fun y S4 io4 H4 v4 _ e4 rs4 re4 rv4 h4 hE4 => ?_⟩
        cases hz : gp x y S4 with
        | none => rw [hz] at h4; cases h4
        | some p =>
          obtain ⟨z, S5⟩ := p
          rw [hz] at h4
          refine ⟨io4, S4, x, y, z, S5, rs4, RV.mono e4 _ _ rv3, rv4, hz, fun io5 H5 v5 e5 rs5 rv5 => ?_⟩
          cases hw : gs o1 i2 z S5 with
          | none =>
            have h5 : (match gs o1 i2 z S5 with | some S6 => some (Out.nx, env, S6) | none => none) = some (o, env', S') := h4
            rw [hw] at h5; cases h5
          | some S6 =>
            have h5 : (match gs o1 i2 z S5 with | some S6 => some (Out.nx, env, S6) | none => none) = some (o, env', S') := h4
            rw [hw] at h5
            cases h5
            exact ⟨io5, S5, o1, i2, z, _, rs5, RV.mono (((e2.trans e3).trans e4).trans e5) _ _ rv1, RV.mono ((e3.trans e4).trans e5) _ _ rv2, rv5, hw, fun io6 H6 e6 rs6 => hE4 io6 H6 σ (e5.trans e6) rs6 ((re4.mono e5).mono e6)⟩
theorem ds_expr (he : DE X W e fe) (hs : swapsWith e none pos.line X.env = pure false := by rfl) : DS X W (.Expr e pos) (sExpr fe) := ps_weak (ps_expr he hs) fun E σ H ⟨io, S, env, o, env', S', rs, re, hf, hE⟩ =>
  tG_bindS rs re hf hE fun d S1 io1 H1 v _ e1 rs1 re1 rv h1 hE1 => by
    cases h1
    exact hE1 io1 H1 σ Ext.refl rs1 re1
theorem ds_ret (he : DE X W e fe) : DS X W (.Return (some e) pos) (sRet fe) := ps_weak (ps_ret he) fun E σ H ⟨io, S, env, o, env', S', rs, re, hf, hE⟩ =>
  tG_bindS rs re hf hE fun d S1 io1 H1 v _ e1 rs1 re1 rv h1 hE1 => by
    cases h1
    exact hE1 io1 H1 v Ext.refl rs1 rv
theorem ds_retN : DS X W (.Return none pos) sRetN := ps_weak ps_retN fun E σ H ⟨io, S, env, o, env', S', rs, re, hf, hE⟩ => by
  cases hf
  exact hE io H .non Ext.refl rs (by simp [RV])
theorem ds_if {c : Expr} {p q : List Stmt} {gc : Ev → Sto → Ans Bool} (hc : DT X W c gc) (ha : DSs X W p f) (hb : DSs X W q g) : DS X W (.If c p q pos) (sIf gc f g) := ps_weak (ps_if hc ha hb) fun E σ H ⟨io, S, env, o, env', S', rs, re, hf, hE⟩ =>
  tG_bindS rs re hf hE fun d S1 io1 H1 v _ e1 rs1 re1 rv h1 hE1 => by
    cases rv
    cases d with
    | true => exact ⟨io1, S1, env, o, env', S', rs1, re1, h1, hE1⟩
    | false => exact ⟨io1, S1, env, o, env', S', rs1, re1, h1, hE1⟩
theorem ds_while (n : Nat) {c : Expr} {body : List Stmt} {gc : Ev → Sto → Ans Bool} (hp : PassesOwn (model X.prog X.w) X.A X.env X.xe) (hc : DT X W c gc) (hb : DSs X W body f) : DS X W (.While c body [] pos) (sWhile n gc f) := ps_weak (ps_while hp hc hb) fun E σ H ⟨io, S, env, o, env', S', rs, re, hf, hE⟩ => by
  refine ⟨fun m σ H => ∃ io S env, RS X.K io S H ∧ RE X.K io H env σ ∧ whileD gc f m env S = some (o, env', S') ∧ EndS X.K X.mg W io H o env' S' E, ⟨n, io, S, env, rs, re, hf, hE⟩, ?_⟩
  rintro m σ H ⟨io, S, env, rs, re, hf, hE⟩
  cases m with
  | zero => cases hf
  | succ m =>
    refine tG_bindS rs re hf hE fun d S1 io1 H1 v _ e1 rs1 re1 rv h1 hE1 => ?_
    cases rv
    cases d with
    | false =>
      cases h1
      exact hE1 io1 H1 σ Ext.refl rs1 re1
    | true =>
      rw [if_pos rfl]
      rw [if_pos rfl] at h1
      refine ⟨fun σ' H' => ∃ io S env, RS X.K io S H' ∧ RE X.K io H' env σ' ∧ whileD gc f m env S = some (o, env', S') ∧ EndS X.K X.mg W io H' o env' S' E, fun σ' H' q => ⟨m, Nat.lt_succ_self _, q⟩, ?_⟩
      cases hb : f env S1 with
      | none => rw [hb] at h1; cases h1
      | some p =>
        obtain ⟨o2, env2, S2⟩ := p
        rw [hb] at h1
        cases o2 with
        | nx => exact ⟨io1, S1, env, _, _, _, rs1, re1, hb, fun io2 H2 σ2 e2 rs2 re2 => ⟨io2, S2, env2, rs2, re2, h1, hE1.mono e2⟩⟩
        | ct => exact ⟨io1, S1, env, _, _, _, rs1, re1, hb, fun io2 H2 σ2 e2 rs2 re2 => ⟨io2, S2, env2, rs2, re2, h1, hE1.mono e2⟩⟩
        | bk => cases h1; exact ⟨io1, S1, env, _, _, _, rs1, re1, hb, hE1⟩
        | rt d => cases h1; exact ⟨io1, S1, env, _, _, _, rs1, re1, hb, hE1⟩
        | ex x => cases h1; exact ⟨io1, S1, env, _, _, _, rs1, re1, hb, hE1⟩
theorem ds_for {tg iter : Expr} {body : List Stmt} {fw : Ev → Sto → Ans Wk} {t : Tg} (hp : PassesOwn (model X.prog X.w) X.A X.env X.xe) (hc : X.calm = true) (hi : DI X W tg iter fw) (hg : PG X tg (tTg X.K t)) (hb : DSs X W body f) (hs : ∀ x, foldedSetIterable iter X.env x = pure x := by intro _; rfl) : DS X W (.For tg iter body [] pos) (sFor fw t f) := ps_weak (ps_for hp hc hi hg hb hs) fun E σ H ⟨io, S, env, o, env', S', rs, re, hf, hE⟩ => by
  refine tG_bindS rs re hf hE fun w S1 io1 H1 J _ e1 rs1 re1 ok h1 hE1 => ?_
  refine ⟨fun i m σ H => m = w.items.length - i ∧ ∃ io S env, Ext X.K io1 H1 io H ∧ RS X.K io S H ∧ RE X.K io H env σ ∧ forD w.ok t f (w.items.drop i) env S = some (o, env', S') ∧ EndS X.K X.mg W io H o env' S' E, ⟨_, rfl, io1, S1, env, Ext.refl, rs1, re1, by simpa using h1, hE1⟩, ?_⟩
  rintro i m σ H ⟨rfl, io, S, env, ex, rs, re, hf, hE⟩
  by_cases hi : i < w.items.length
  · rw [List.drop_eq_getElem_cons hi] at hf
    unfold forD at hf
    split at hf
    · rename_i hok
      obtain ⟨_, hgo⟩ := ok i io S H ex rs hok
      obtain ⟨hgo, hyl⟩ := hgo _ (List.getElem?_eq_getElem hi)
      refine .inr ⟨hgo, fun σ' H' => ∃ io S env, Ext X.K io1 H1 io H' ∧ RS X.K io S H' ∧ RE X.K io H' env σ' ∧ forD w.ok t f (w.items.drop (i + 1)) env S = some (o, env', S') ∧ EndS X.K X.mg W io H' o env' S' E, fun σ' H' q => ⟨_, by omega, rfl, q⟩, fun x H' hy => ?_⟩
      obtain ⟨io', ex', rs', rv⟩ := hyl x H' hy
      split at hf
      · cases hf
      · rename_i env1 hput
        refine ⟨io', env, _, env1, re.mono ex', rv, hput, fun σ2 re2 _ _ => ?_⟩
        cases hbo : f env1 S with
        | none => rw [hbo] at hf; cases hf
        | some p =>
          obtain ⟨o2, env2, S2⟩ := p
          rw [hbo] at hf
          cases o2 with
          | nx => exact ⟨io', S, env1, _, _, _, rs', re2, hbo, fun io2 H2 σ2 e2 rs2 re2 => ⟨io2, S2, env2, (ex.trans ex').trans e2, rs2, re2, hf, (hE.mono ex').mono e2⟩⟩
          | ct => exact ⟨io', S, env1, _, _, _, rs', re2, hbo, fun io2 H2 σ2 e2 rs2 re2 => ⟨io2, S2, env2, (ex.trans ex').trans e2, rs2, re2, hf, (hE.mono ex').mono e2⟩⟩
          | bk => cases hf; exact ⟨io', S, env1, _, _, _, rs', re2, hbo, hE.mono ex'⟩
          | rt d => cases hf; exact ⟨io', S, env1, _, _, _, rs', re2, hbo, hE.mono ex'⟩
          | ex x => cases hf; exact ⟨io', S, env1, _, _, _, rs', re2, hbo, hE.mono ex'⟩
    · cases hf
  · rw [List.drop_eq_nil_of_le (by omega)] at hf
    unfold forD at hf
    split at hf
    · rename_i hok
      cases hf
      exact .inl ⟨(ok i io _ H ex rs hok).1 (by omega), hE io H σ Ext.refl rs re⟩
    · cases hf
end
end DL
namespace DL
open PySem PySem.Spec PyProof.Rows L2 RT RZ

/-! ### what is walked -/
def wSeq (fe : Ev → Sto → Ans D) : Ev → Sto → Ans Wk := fun env S => bindR (fe env S) fun d S1 => match seqOf d S1 with
  | some ds => some (.ok ⟨fun S => seqOf d S = some ds, ds⟩, S1)
  | none => none
def rangeL (lo : Int) (n : Nat) : List D := (List.range n).map fun (k : Nat) => D.int (lo + k)
/-- an end that a range may have -/
def RgB (j : Int) : Prop := -(2 ^ 62) ≤ j ∧ j < 2 ^ 62
noncomputable instance (j : Int) : Decidable (RgB j) := Classical.propDecidable _
theorem RgB.of {j : Int} (h : j.natAbs ≤ 1000000000000) : RgB j := ⟨by omega, by omega⟩
noncomputable def wRange (fs : Ev → Sto → Ans (List D)) : Ev → Sto → Ans Wk := fun env S => bindR (fs env S) fun ds S1 => match ds with
  | [.int j] => if RgB j then some (.ok ⟨fun _ => True, rangeL 0 j.toNat⟩, S1) else none
  | [.int i, .int j] => if RgB i ∧ RgB j then some (.ok ⟨fun _ => True, rangeL i (j - i).toNat⟩, S1) else none
  | _ => none
def wRev (fe : Ev → Sto → Ans D) : Ev → Sto → Ans Wk := fun env S => bindR (fe env S) fun d S1 => match seqOf d S1 with
  | some ds => some (.ok ⟨fun S => seqOf d S = some ds, ds.reverse⟩, S1)
  | none => none
def wStr (fe : Ev → Sto → Ans D) : Ev → Sto → Ans Wk := fun env S => bindR (fe env S) fun d S1 => match d with
  | .str x => some (.ok ⟨fun _ => True, x.cps.toList.map fun c => D.str ⟨#[c]⟩⟩, S1)
  | _ => none
def zipD (xs ys : List D) : List D := (xs.zip ys).map fun p => D.tup [p.1, p.2]
def isTup : D → Bool
  | .tup _ => true
  | _ => false
def wZip (fs : Ev → Sto → Ans (List D)) : Ev → Sto → Ans Wk := fun env S => bindR (fs env S) fun ds S1 => match ds with
  | [a, b] => match seqOf a S1, seqOf b S1 with
    | some xs, some ys => if isTup a = isTup b then some (.ok ⟨fun S => seqOf a S = some xs ∧ seqOf b S = some ys, zipD xs ys⟩, S1) else none
    | _, _ => none
  | _ => none
def enumD (xs : List D) : List D := (xs.zipIdx).map fun p => D.tup [.int p.2, p.1]
def wEnum (fs : Ev → Sto → Ans (List D)) : Ev → Sto → Ans Wk := fun env S => bindR (fs env S) fun ds S1 => match ds with
  | [.ref n] => match seqOf (.ref n) S1 with
    | some xs => some (.ok ⟨fun S => seqOf (.ref n) S = some xs, enumD xs⟩, S1)
    | _ => none
  | _ => none
section
variable {K : PySem.W.Frag} {io : List Addr} {S : Sto} {H : Hp}
theorem seq_ref {n : Nat} {ds : List D} (h : seqOf (.ref n) S = some ds) : S[n]? = some (.lst ds) ∨ S[n]? = some (.rol ds) := by
  simp only [seqOf] at h
  split at h
  · cases h
    exact .inl (by assumption)
  · cases h
    exact .inr (by assumption)
  · cases h
theorem ItOk.list {a : Addr} {n : Nat} {ds : List D} (ha : io[n]? = some a) : ItOk K io H ⟨fun S => seqOf (.ref n) S = some ds, ds⟩ (Itl K a) := fun i io' S' H' ex rs ok => by
  obtain ⟨b, vs, e1, e2, e3, e4⟩ := rs.seq (seq_ref ok) (show RV K io' H' (.ref n) (.ref a) by unfold RV; exact ⟨a, ex.get ha, rfl⟩)
  cases e1
  refine ⟨fun hi => ⟨vs, e3, by rw [← e4.length]; exact hi⟩, fun x hx => ?_⟩
  obtain ⟨v, h1, h2⟩ := e4.get hx
  refine ⟨⟨vs, v, e3, h1⟩, fun w H2 hy => ?_⟩
  obtain ⟨rfl, hy⟩ := hy
  have := hy vs e3
  rw [h1] at this
  cases this
  exact ⟨io', Ext.refl, rs, h2⟩
theorem ItOk.tup {a : Addr} {vs : List V} {ds : List D} (ok : Sto → Prop) (ha : SqT K H a vs) (hd : RVs K io H ds vs) : ItOk K io H ⟨ok, ds⟩ (Itt K a) := fun i io' S' H' ex rs _ => by
  have e3 := ex.tup a vs ha
  have e4 := RVs.mono ex ds vs hd
  refine ⟨fun hi => ⟨vs, e3, by rw [← e4.length]; exact hi⟩, fun x hx => ?_⟩
  obtain ⟨v, h1, h2⟩ := e4.get hx
  refine ⟨⟨vs, v, e3, h1⟩, fun w H2 hy => ?_⟩
  obtain ⟨rfl, hy⟩ := hy
  have := hy vs e3
  rw [h1] at this
  cases this
  exact ⟨io', Ext.refl, rs, h2⟩
theorem rangeL_get {lo : Int} {n i : Nat} {x : D} (h : (rangeL lo n)[i]? = some x) : i < n ∧ x = .int (lo + i) := by
  unfold rangeL at h
  rw [List.getElem?_map] at h
  by_cases hi : i < n
  · rw [List.getElem?_range hi] at h
    cases h
    exact ⟨hi, rfl⟩
  · rw [List.getElem?_eq_none (by simpa using hi)] at h
    cases h
theorem rangeL_length {lo : Int} {n : Nat} : (rangeL lo n).length = n := by simp [rangeL]
theorem ItOk.range {lo : Int} {n : Nat} (ok : Sto → Prop) : ItOk K io H ⟨ok, rangeL lo n⟩ (Itr lo n) := fun i io' S' H' ex rs _ => by
  refine ⟨fun hi => by have h : n ≤ i := by simpa [rangeL] using hi
                       exact h, fun x hx => ?_⟩
  obtain ⟨hi, rfl⟩ := rangeL_get hx
  refine ⟨hi, fun w H2 hy => ?_⟩
  obtain ⟨rfl, rfl⟩ := hy
  exact ⟨io', Ext.refl, rs, by simp [RV]⟩
theorem ItOk.rev {a : Addr} {n : Nat} {ds : List D} (ha : io[n]? = some a) : ItOk K io H ⟨fun S => seqOf (.ref n) S = some ds, ds.reverse⟩ (Itv K a ds.length) := fun i io' S' H' ex rs ok => by
  have stp : (ds.reverse.length ≤ i → (Itv K a ds.length).stop i H') := fun hi => by
    have h : ds.length ≤ i := by simpa using hi
    exact h
  obtain ⟨b, vs, e1, e2, e3, e4⟩ := rs.seq (seq_ref ok) (show RV K io' H' (.ref n) (.ref a) by unfold RV; exact ⟨a, ex.get ha, rfl⟩)
  cases e1
  refine ⟨stp, fun x hx => ?_⟩
  have hi : i < ds.length := by simpa using (List.getElem?_eq_some_iff.mp hx).1
  have hx' : ds[ds.length - 1 - i]? = some x := by
    have hx0 : ds.reverse[i]? = some x := hx
    rw [List.getElem?_reverse hi] at hx0
    exact hx0
  obtain ⟨v, h1, h2⟩ := e4.get hx'
  refine ⟨⟨hi, vs, v, e3, h1⟩, fun w H2 hy => ?_⟩
  obtain ⟨rfl, hy⟩ := hy
  have := hy vs e3
  rw [h1] at this
  cases this
  exact ⟨io', Ext.refl, rs, h2⟩
theorem ItOk.revT {a : Addr} {vs : List V} {ds : List D} (ok : Sto → Prop) (ha : SqT K H a vs) (hd : RVs K io H ds vs) : ItOk K io H ⟨ok, ds.reverse⟩ (ItvT K a ds.length) := fun i io' S' H' ex rs _ => by
  have stp : (ds.reverse.length ≤ i → (ItvT K a ds.length).stop i H') := fun hi => by
    have h : ds.length ≤ i := by simpa using hi
    exact h
  have e3 := ex.tup a vs ha
  have e4 := RVs.mono ex ds vs hd
  refine ⟨stp, fun x hx => ?_⟩
  have hi : i < ds.length := by simpa using (List.getElem?_eq_some_iff.mp hx).1
  have hx' : ds[ds.length - 1 - i]? = some x := by
    have hx0 : ds.reverse[i]? = some x := hx
    rw [List.getElem?_reverse hi] at hx0
    exact hx0
  obtain ⟨v, h1, h2⟩ := e4.get hx'
  refine ⟨⟨hi, vs, v, e3, h1⟩, fun w H2 hy => ?_⟩
  obtain ⟨rfl, hy⟩ := hy
  have := hy vs e3
  rw [h1] at this
  cases this
  exact ⟨io', Ext.refl, rs, h2⟩
theorem ItOk.str {x : Str} (ok : Sto → Prop) : ItOk K io H ⟨ok, x.cps.toList.map fun c => D.str ⟨#[c]⟩⟩ (Its x) := fun i io' S' H' ex rs _ => by
  have stp : ((x.cps.toList.map fun c => D.str ⟨#[c]⟩).length ≤ i → (Its x).stop i H') := fun hi => by
    have h : x.cps.size ≤ i := by simpa using hi
    exact h
  refine ⟨stp, fun y hy => ?_⟩
  have hy0 : (x.cps.toList.map fun c => D.str ⟨#[c]⟩)[i]? = some y := hy
  rw [List.getElem?_map] at hy0
  cases hc : x.cps.toList[i]? with
  | none => rw [hc] at hy0; cases hy0
  | some c =>
    rw [hc] at hy0
    cases hy0
    have hi : i < x.cps.size := by simpa using (List.getElem?_eq_some_iff.mp hc).1
    refine ⟨hi, fun w H2 hy => ?_⟩
    obtain ⟨rfl, c', h1, rfl⟩ := hy
    have : c' = c := by
      have h2 : x.cps[i]? = some c := by simpa using hc
      rw [h1] at h2
      exact Option.some.inj h2
    subst this
    exact ⟨io', Ext.refl, rs, by simp [RV]⟩
theorem tup2 {io' : List Addr} {H' : Hp} {T : Addr} {a b : D} {x y : V} (hT : H' T = none) (r1 : RV K io' H' a x) (r2 : RV K io' H' b y) : RV K io' (upd H' T (.tup [x, y])) (.tup [a, b]) (.ref T) := by
  unfold RV
  exact ⟨T, _, rfl, SqT.of upd_same, RVs.cons (RV.mono (Ext.fresh hT) _ _ r1) (RVs.one (RV.mono (Ext.fresh hT) _ _ r2))⟩
theorem ItOk.enum {a : Addr} {n : Nat} {ds : List D} (ha : io[n]? = some a) : ItOk K io H ⟨fun S => seqOf (.ref n) S = some ds, enumD ds⟩ (Ite K a) := fun i io' S' H' ex rs ok => by
  obtain ⟨b, vs, e1, e2, e3, e4⟩ := rs.seq (seq_ref ok) (show RV K io' H' (.ref n) (.ref a) by unfold RV; exact ⟨a, ex.get ha, rfl⟩)
  cases e1
  refine ⟨fun hi => ⟨vs, e3, by rw [← e4.length]; simpa [enumD] using hi⟩, fun x hx => ?_⟩
  have hx0 : (enumD ds)[i]? = some x := hx
  unfold enumD at hx0
  rw [List.getElem?_map, List.getElem?_zipIdx] at hx0
  cases hd : ds[i]? with
  | none => rw [hd] at hx0; cases hx0
  | some d =>
    rw [hd] at hx0
    cases hx0
    obtain ⟨v, h1, h2⟩ := e4.get hd
    refine ⟨⟨vs, v, e3, h1⟩, fun w H2 hy => ?_⟩
    obtain ⟨T, x, rfl, hT, rfl, hy⟩ := hy
    have := hy vs e3
    rw [h1] at this
    cases this
    refine ⟨io', Ext.fresh hT, rs.tupNew hT, ?_⟩
    have := tup2 (K := K) (a := .int ((i : Nat) : Int)) (x := .int ((i : Nat) : Int)) hT (by simp [RV]) h2
    simpa using this
theorem zip_get {xs ys : List D} {i : Nat} {z : D} (h : (zipD xs ys)[i]? = some z) : ∃ x y, xs[i]? = some x ∧ ys[i]? = some y ∧ z = .tup [x, y] := by
  unfold zipD at h
  rw [List.getElem?_map] at h
  cases hz : (xs.zip ys)[i]? with
  | none => rw [hz] at h; cases h
  | some p =>
    rw [hz] at h
    cases h
    obtain ⟨h1, h2⟩ := List.getElem?_zip_eq_some.mp hz
    exact ⟨p.1, p.2, h1, h2, rfl⟩
theorem ItOk.zip {a b : Addr} {n m : Nat} {xs ys : List D} (ha : io[n]? = some a) (hb : io[m]? = some b) : ItOk K io H ⟨fun S => seqOf (.ref n) S = some xs ∧ seqOf (.ref m) S = some ys, zipD xs ys⟩ (Itz K a b) := fun i io' S' H' ex rs ok => by
  obtain ⟨_, vs, e1, e2, e3, e4⟩ := rs.seq (seq_ref ok.1) (show RV K io' H' (.ref n) (.ref a) by unfold RV; exact ⟨a, ex.get ha, rfl⟩)
  cases e1
  obtain ⟨_, ws, f1, f2, f3, f4⟩ := rs.seq (seq_ref ok.2) (show RV K io' H' (.ref m) (.ref b) by unfold RV; exact ⟨b, ex.get hb, rfl⟩)
  cases f1
  refine ⟨fun hi => ⟨vs, ws, e3, f3, by rw [← e4.length, ← f4.length]; simp [zipD] at hi; omega⟩, fun z hz => ?_⟩
  obtain ⟨x, y, h1, h2, rfl⟩ := zip_get hz
  obtain ⟨v, p1, p2⟩ := e4.get h1
  obtain ⟨w, q1, q2⟩ := f4.get h2
  refine ⟨⟨vs, ws, v, w, e3, f3, p1, q1⟩, fun u H2 hy => ?_⟩
  obtain ⟨T, x', y', rfl, hT, rfl, k1, k2⟩ := hy
  have := k1 vs e3
  rw [p1] at this
  cases this
  have := k2 ws f3
  rw [q1] at this
  cases this
  exact ⟨io', Ext.fresh hT, rs.tupNew hT, tup2 hT p2 q2⟩
theorem ItOk.zipT {a b : Addr} {vs ws : List V} {xs ys : List D} (ok : Sto → Prop) (ha : SqT K H a vs) (hd : RVs K io H xs vs) (hb : SqT K H b ws) (hd2 : RVs K io H ys ws) : ItOk K io H ⟨ok, zipD xs ys⟩ (ItzT K a b) := fun i io' S' H' ex rs _ => by
  have e3 := ex.tup a vs ha
  have e4 := RVs.mono ex _ vs hd
  have f3 := ex.tup b ws hb
  have f4 := RVs.mono ex _ ws hd2
  refine ⟨fun hi => ⟨vs, ws, e3, f3, by rw [← e4.length, ← f4.length]; simp [zipD] at hi; omega⟩, fun z hz => ?_⟩
  obtain ⟨x, y, h1, h2, rfl⟩ := zip_get hz
  obtain ⟨v, p1, p2⟩ := e4.get h1
  obtain ⟨w, q1, q2⟩ := f4.get h2
  refine ⟨⟨vs, ws, v, w, e3, f3, p1, q1⟩, fun u H2 hy => ?_⟩
  obtain ⟨T, x', y', rfl, hT, rfl, k1, k2⟩ := hy
  have := k1 vs e3
  rw [p1] at this
  cases this
  have := k2 ws f3
  rw [q1] at this
  cases this
  exact ⟨io', Ext.fresh hT, rs.tupNew hT, tup2 hT p2 q2⟩
end
section
variable {X : Cx} {W : XK} {e e2 tg : Expr} {es : List Expr} {fe : Ev → Sto → Ans D} {fs : Ev → Sto → Ans (List D)} {pos p tpos : Pos} {elts : List Expr} {kk : Nat}
/-- a list or a tuple -/
theorem di_seq (he : DE X W e fe) : DI X W tg e (wSeq fe) := pi_weak (pi_or (pi_list he) (pi_tup he)) fun σ H R ⟨io, S, env, r, S', rs, re, hf, hE⟩ => by
  unfold wSeq at hf
  cases hd : fe env S with
  | none => rw [hd] at hf; cases hf
  | some q =>
    obtain ⟨ra, S1⟩ := q
    cases ra with
    | ex x =>
      rw [hd] at hf
      cases hf
      exact .inl ⟨io, S, env, _, _, rs, re, hd, hE⟩
    | ok d =>
      by_cases ht : isTup d = true
      · refine .inr (tG_bind2 rs re hf hE fun d' S1' io1 H1 v hd' e1 rs1 re1 rv1 h1 hE1 => ?_)
        rw [hd] at hd'
        cases hd'
        cases d <;> first | cases ht | skip
        rename_i ds
        unfold RV at rv1
        obtain ⟨a, vs, rfl, e2, e3⟩ := rv1
        cases h1
        exact ⟨a, rfl, ⟨vs, e2⟩, hE1.now rs1 (ItOk.tup _ e2 e3)⟩
      · refine .inl (tG_bind2 rs re hf hE fun d' S1' io1 H1 v hd' e1 rs1 re1 rv1 h1 hE1 => ?_)
        rw [hd] at hd'
        cases hd'
        cases hs : seqOf d S1 with
        | none => rw [hs] at h1; cases h1
        | some ds =>
          rw [hs] at h1
          cases h1
          cases d with
          | ref n =>
            obtain ⟨a, vs, rfl, e2, e3, e4⟩ := rs1.seq (seq_ref hs) rv1
            exact ⟨a, rfl, ⟨vs, e3⟩, hE1.now rs1 (ItOk.list e2)⟩
          | tup _ => exact absurd rfl ht
          | non => cases hs
          | bl _ => cases hs
          | int _ => cases hs
          | str _ => cases hs
theorem RVs.int1 {K : PySem.W.Frag} {io : List Addr} {H : Hp} {j : Int} {vs : List V} (h : RVs K io H [.int j] vs) : vs = [.int j] := by
  simp only [RVs, RV] at h
  obtain ⟨v, r, rfl, rfl, rfl⟩ := h
  rfl
theorem RVs.int2 {K : PySem.W.Frag} {io : List Addr} {H : Hp} {i j : Int} {vs : List V} (h : RVs K io H [.int i, .int j] vs) : vs = [.int i, .int j] := by
  simp only [RVs, RV] at h
  obtain ⟨v, r, rfl, rfl, w, r2, rfl, rfl, rfl⟩ := h
  rfl
theorem one_of {ds : List D} (h : ds.length = 1) : ∃ d, ds = [d] := by
  match ds, h with
  | [d], _ => exact ⟨d, rfl⟩
theorem two_of {ds : List D} (h : ds.length = 2) : ∃ d e, ds = [d, e] := by
  match ds, h with
  | [d, e], _ => exact ⟨d, e, rfl⟩
theorem di_range1 (hg : Gl X "range") (hm : X.mg "range" = none) (ha : DA X W [e] fs)
    (hf1 : ∀ env S ds S', fs env S = some (.ok ds, S') → ds.length = 1) (hs : starEach [e] X.env = [(false, eval e X.env)] := by rfl) : DI X W tg (.Call (.Name "range" p) [e] [] pos) (wRange fs) :=
  pi_weak (pi_range1 hg hm ha hs) fun σ H R ⟨io, S, env, r, S', rs, re, hf, hE⟩ => tG_bind2 rs re hf hE fun ds S1 io1 H1 v hd e1 rs1 re1 rv1 h1 hE1 => by
    obtain ⟨d, rfl⟩ := one_of (hf1 _ _ _ _ hd)
    cases d with
    | int j =>
      simp only at h1
      split at h1
      · rename_i hb
        cases h1
        exact ⟨j, RVs.int1 rv1, hb.1, hb.2, hE1.now rs1 (ItOk.range _)⟩
      · cases h1
    | _ => cases h1
theorem di_range2 (hg : Gl X "range") (hm : X.mg "range" = none) (ha : DA X W [e, e2] fs) (hf1 : ∀ env S ds S', fs env S = some (.ok ds, S') → ds.length = 2) (hs : starEach [e, e2] X.env = [(false, eval e X.env), (false, eval e2 X.env)] := by rfl) (hs2 : starEach [e2] X.env = [(false, eval e2 X.env)] := by rfl) : DI X W tg (.Call (.Name "range" p) [e, e2] [] pos) (wRange fs) :=
  pi_weak (pi_range2 hg hm ha hs hs2) fun σ H R ⟨io, S, env, r, S', rs, re, hf, hE⟩ => tG_bind2 rs re hf hE fun ds S1 io1 H1 v hd e1 rs1 re1 rv1 h1 hE1 => by
    obtain ⟨d, d', rfl⟩ := two_of (hf1 _ _ _ _ hd)
    cases d with
    | int i =>
      cases d' with
      | int j =>
        simp only at h1
        split at h1
        · rename_i hb
          cases h1
          exact ⟨i, j, RVs.int2 rv1, ⟨hb.1.1, hb.1.2, hb.2.1, hb.2.2⟩, hE1.now rs1 (ItOk.range _)⟩
        · cases h1
      | _ => cases h1
    | _ => cases h1
theorem di_rev (hg : Gl X "reversed") (hm : X.mg "reversed" = none) (he : DE X W e fe) (hs : starEach [e] X.env = (false, eval e X.env) :: starEach [] X.env := by rfl) : DI X W tg (.Call (.Name "reversed" p) [e] [] pos) (wRev fe) :=
  pi_weak (pi_revA hg hm he hs) fun σ H R ⟨io, S, env, r, S', rs, re, hf, hE⟩ => tG_bind rs re hf hE fun d S1 io1 H1 v e1 rs1 re1 rv1 h1 hE1 => by
    cases hs : seqOf d S1 with
    | none => rw [hs] at h1; cases h1
    | some ds =>
      rw [hs] at h1
      cases h1
      cases d with
      | ref n =>
        obtain ⟨a, vs, rfl, e2, e3, e4⟩ := rs1.seq (seq_ref hs) rv1
        exact ⟨a, vs, rfl, .inl ⟨e3, by rw [← e4.length]; exact hE1.now rs1 (ItOk.rev e2)⟩⟩
      | tup es =>
        cases hs
        unfold RV at rv1
        obtain ⟨a, vs, rfl, e2, e3⟩ := rv1
        exact ⟨a, vs, rfl, .inr ⟨e2, by rw [← e3.length]; exact hE1.now rs1 (ItOk.revT _ e2 e3)⟩⟩
      | non => cases hs
      | bl _ => cases hs
      | int _ => cases hs
      | str _ => cases hs
theorem di_str (he : DE X W e fe) : DI X W tg e (wStr fe) :=
  pi_weak (pi_str he) fun σ H R ⟨io, S, env, r, S', rs, re, hf, hE⟩ => tG_bind rs re hf hE fun d S1 io1 H1 v e1 rs1 re1 rv1 h1 hE1 => by
    cases d <;> first | cases h1 | skip
    unfold RV at rv1
    subst rv1
    exact ⟨_, rfl, hE1.now rs1 (ItOk.str _)⟩
theorem di_enum (hg : Gl X "enumerate") (hm : X.mg "enumerate" = none) (ha : DA X W [e] fs) (hf1 : ∀ env S ds S', fs env S = some (.ok ds, S') → ds.length = 1) (hs : starEach [e] X.env = [(false, eval e X.env)] := by rfl) : DI X W (.Tuple elts kk tpos) (.Call (.Name "enumerate" p) [e] [] pos) (wEnum fs) :=
  pi_weak (pi_enum hg hm ha hs) fun σ H R ⟨io, S, env, r, S', rs, re, hf, hE⟩ => tG_bind2 rs re hf hE fun ds S1 io1 H1 v hd e1 rs1 re1 rv1 h1 hE1 => by
    obtain ⟨d, rfl⟩ := one_of (hf1 _ _ _ _ hd)
    cases d with
    | ref n =>
      cases hs : seqOf (.ref n) S1 with
      | none => simp only [hs] at h1; cases h1
      | some xs =>
        simp only [hs] at h1
        cases h1
        unfold RVs at rv1
        obtain ⟨w, r, rfl, rv2, rv3⟩ := rv1
        unfold RVs at rv3
        subst rv3
        obtain ⟨a, vs, rfl, e2, e3, e4⟩ := rs1.seq (seq_ref hs) rv2
        exact ⟨a, vs, rfl, e3, hE1.now rs1 (ItOk.enum e2)⟩
    | _ => cases h1
theorem di_zip (hg : Gl X "zip") (hm : X.mg "zip" = none) (ha : DA X W [e, e2] fs) (hf1 : ∀ env S ds S', fs env S = some (.ok ds, S') → ds.length = 2) (hs : starEach [e, e2] X.env = (false, eval e X.env) :: starEach [e2] X.env := by rfl) (hpl : (backTo pos (starEach [e2] X.env)).any (·.1) = false := by rfl) : DI X W (.Tuple elts kk tpos) (.Call (.Name "zip" p) [e, e2] [] pos) (wZip fs) :=
  pi_weak (pi_zipA hg hm ha hs hpl) fun σ H R ⟨io, S, env, r, S', rs, re, hf, hE⟩ => tG_bind2 rs re hf hE fun ds S1 io1 H1 v hd e1 rs1 re1 rv1 h1 hE1 => by
    obtain ⟨x, y, rfl⟩ := two_of (hf1 _ _ _ _ hd)
    simp only at h1
    split at h1
    · rename_i xs ys hx hy
      split at h1
      · rename_i ht
        cases h1
        unfold RVs at rv1
        obtain ⟨w, r, rfl, rv2, rv3⟩ := rv1
        unfold RVs at rv3
        obtain ⟨w2, r2, rfl, rv4, rv5⟩ := rv3
        unfold RVs at rv5
        subst rv5
        cases x with
        | ref n =>
          cases y with
          | ref m =>
            obtain ⟨a, vs, rfl, e2, e3, e4⟩ := rs1.seq (seq_ref hx) rv2
            obtain ⟨b, ws, rfl, f2, f3, f4⟩ := rs1.seq (seq_ref hy) rv4
            exact ⟨a, b, vs, ws, rfl, .inl ⟨e3, f3, hE1.now rs1 (ItOk.zip e2 f2)⟩⟩
          | tup _ => cases ht
          | _ => cases hy
        | tup es =>
          cases y with
          | tup _ =>
            cases hx
            cases hy
            unfold RV at rv2 rv4
            obtain ⟨a, vs, rfl, e2, e3⟩ := rv2
            obtain ⟨b, ws, rfl, f2, f3⟩ := rv4
            exact ⟨a, b, vs, ws, rfl, .inr ⟨e2, f2, hE1.now rs1 (ItOk.zipT _ e2 e3 f2 f3)⟩⟩
          | ref _ => cases ht
          | _ => cases hy
        | _ => cases hx
      · cases h1
    · cases h1
theorem len_nil : ∀ env S ds S', dNil env S = some (.ok ds, S') → ds.length = 0 := fun _ _ _ _ h => by
  cases h
  rfl
theorem bindR_ok {α β : Type} {x : Ans α} {k : α → Sto → Ans β} {b : β} {S' : Sto} (h : bindR x k = some (.ok b, S')) : ∃ a S, x = some (.ok a, S) ∧ k a S = some (.ok b, S') := by
  unfold bindR at h
  split at h
  · cases h
  · cases h
  · exact ⟨_, _, rfl, h⟩
theorem len_cons {n : Nat} (h : ∀ env S ds S', fs env S = some (.ok ds, S') → ds.length = n) : ∀ env S ds S', dCons fe fs env S = some (.ok ds, S') → ds.length = n + 1 := fun env S ds S' q => by
  obtain ⟨a, S1, _, q⟩ := bindR_ok q
  obtain ⟨b, S2, q1, q⟩ := bindR_ok q
  cases q
  simp [h _ _ _ _ q1]
end
end DL
namespace DL
open PySem PySem.Spec PyProof.Rows L2 RT RZ

/-! ### list comprehensions -/
def wipeE (env : Ev) : List Nat → Ev
  | [] => env
  | v :: vs => (wipeE env vs).set v none
theorem wipeE_len (env : Ev) : ∀ vs : List Nat, (wipeE env vs).length = env.length
  | [] => rfl
  | v :: vs => by
    unfold wipeE
    rw [List.length_set, wipeE_len env vs]
theorem RE.wipe {K : PySem.W.Frag} {io : List Addr} {H : Hp} {env : Ev} {σ : L2.St} (h : RE K io H env σ) : ∀ vs : List Nat, RE K io H (wipeE env vs) (wipe σ vs)
  | [] => h
  | v :: vs => by
    have q := RE.wipe h vs
    refine ⟨by simp [wipeE, L2.wipe, q.len], fun i d e => ?_⟩
    unfold wipeE at e
    unfold L2.wipe
    by_cases hi : v = i
    · subst hi
      by_cases hv : v < (wipeE env vs).length
      · rw [List.getElem?_set_self hv] at e
        cases e
      · rw [List.getElem?_eq_none (by simpa using hv)] at e
        cases e
    · rw [List.getElem?_set_ne hi] at e ⊢
      exact q.get i d e
theorem wipe_at (σ : L2.St) (i : Nat) : ∀ vs : List Nat, (wipe σ vs)[i]? = if i ∈ vs then (if i < σ.length then some none else none) else σ[i]?
  | [] => by simp [L2.wipe]
  | v :: vs => by
    unfold L2.wipe
    by_cases hv : v = i
    · subst hv
      rw [if_pos (List.mem_cons_self)]
      by_cases hl : v < σ.length
      · rw [List.getElem?_set_self (by rw [wipe_length]; exact hl), if_pos hl]
      · rw [List.getElem?_eq_none (by rw [List.length_set, wipe_length]; omega), if_neg hl]
    · rw [List.getElem?_set_ne hv, wipe_at σ i vs]
      have : i ∈ v :: vs ↔ i ∈ vs := by
        simp only [List.mem_cons]
        exact ⟨fun h => h.elim (fun z => absurd z.symm hv) id, .inr⟩
      simp only [this]
theorem wipe_same {σ σ' : L2.St} {vs : List Nat} (f : ∀ j, j ∉ vs → σ'[j]? = (wipe σ vs)[j]?) (l : σ'.length = (wipe σ vs).length) : wipe σ' vs = wipe σ vs := by
  apply List.ext_getElem?
  intro i
  rw [wipe_at σ' i vs]
  by_cases hi : i ∈ vs
  · rw [if_pos hi, wipe_at σ i vs, if_pos hi, l, wipe_length]
  · rw [if_neg hi, f i hi]
open Classical in
noncomputable def lcD (ok : Sto → Prop) (t : Tg) (gt : Ev → Sto → Ans Bool) (fe : Ev → Sto → Ans D) (env : Ev) (n : Nat) : List D → Sto → Option Sto
  | [], S => if ok S then some S else none
  | x :: xs, S => if ok S then match t.put x env with
      | none => none
      | some env1 => match gt env1 S with
        | some (.ok true, S1) => match fe env1 S1 with
          | some (.ok y, S2) => match S2[n]? with
            | some (.lst acc) => if acc.length < sizeLine then lcD ok t gt fe env n xs (S2.set n (.lst (acc ++ [y]))) else none
            | _ => none
          | _ => none
        | some (.ok false, S1) => lcD ok t gt fe env n xs S1
        | _ => none
    else none
noncomputable def dLc (fw : Ev → Sto → Ans Wk) (t : Tg) (gt : Ev → Sto → Ans Bool) (fe : Ev → Sto → Ans D) (vs : List Nat) : Ev → Sto → Ans D := fun env S => bindR (fw env S) fun w S1 =>
  match lcD w.ok t gt fe (wipeE env vs) S1.length w.items (S1 ++ [.lst []]) with
  | some S2 => some (.ok (.ref S1.length), S2)
  | none => none
def dTrue : Ev → Sto → Ans Bool := fun _ S => some (.ok true, S)
section
variable {X : Cx} {W : XK}
theorem pts_weak {ifs : List Expr} {t t' : TT} (h : PTs X ifs t) (w : ∀ σ H Q, t' σ H Q → t σ H Q) : PTs X ifs t' := ⟨fun pins s σ H Q I q => h.run pins s σ H Q I (w σ H Q q)⟩
theorem dts_nil : PTs X [] (tMT X.K X.mg W dTrue) := pts_weak pts_nil fun σ H Q ⟨io, S, env, r, S', rs, re, hf, hE⟩ => by
  cases hf
  exact hE.now rs rfl
theorem dts_one {c : Expr} {gt : Ev → Sto → Ans Bool} (h : DT X W c gt) : PTs X [c] (tMT X.K X.mg W gt) := pts_one h
end
theorem lc_read {K : PySem.W.Frag} {mg : Str → Option Value} {W : XK} {fw : Ev → Sto → Ans Wk} {t : Tg} {gt : Ev → Sto → Ans Bool} {fe : Ev → Sto → Ans D} {vs : List Nat} (hsub : ∀ j ∈ t.slots, j ∈ vs) {σ : L2.St} {H : Hp} {Q : VK} (h : tM K mg W (dLc fw t gt fe vs) σ H Q) :
    tLc (tIM K mg W fw) (tTg K t) (tMT K mg E0 gt) (tM K mg E0 fe) vs σ H Q := by
  obtain ⟨io, S, env, r, S', rs, re, hf, hE⟩ := h
  refine tG_bind rs re hf hE fun w S1 io1 H1 J e1 rs1 re1 ok h1 hE1 => fun D hD => ?_
  cases hl : lcD w.ok t gt fe (wipeE env vs) S1.length w.items (S1 ++ [.lst []]) with
  | none => rw [hl] at h1; cases h1
  | some S2 =>
    rw [hl] at h1
    cases h1
    have rs0 := rs1.lstNew hD RVs.nil
    have ex0 : Ext K io1 H1 (io1 ++ [D]) (upd H1 D (.lst [])) := Ext.new hD
    have at0 : (io1 ++ [D])[S1.length]? = some D := rs1.lastNew
    refine ⟨fun i m H => m = w.items.length - i ∧ ∃ io S, Ext K (io1 ++ [D]) (upd H1 D (.lst [])) io H ∧ RS K io S H ∧ lcD w.ok t gt fe (wipeE env vs) S1.length (w.items.drop i) S = some S', ⟨_, rfl, _, _, Ext.refl, rs0, by simpa using hl⟩, ?_⟩
    rintro i m H ⟨rfl, io, S, ex, rs, hf⟩
    have hat : io[S1.length]? = some D := ex.get at0
    by_cases hi : i < w.items.length
    · rw [List.drop_eq_getElem_cons hi] at hf
      unfold lcD at hf
      split at hf
      · rename_i hok
        obtain ⟨_, hgo⟩ := ok i io S H (ex0.trans ex) rs hok
        obtain ⟨hgo, hyl⟩ := hgo _ (List.getElem?_eq_getElem hi)
        refine .inr ⟨hgo, fun H' => ∃ io S, Ext K (io1 ++ [D]) (upd H1 D (.lst [])) io H' ∧ RS K io S H' ∧ lcD w.ok t gt fe (wipeE env vs) S1.length (w.items.drop (i + 1)) S = some S', fun H' q => ⟨_, by omega, rfl, q⟩, fun x H' hy => ?_⟩
        obtain ⟨io', ex', rs', rv⟩ := hyl x H' hy
        have reW : RE K io' H' (wipeE env vs) (wipe σ vs) := ((re1.mono ex0).mono (ex.trans ex')).wipe vs
        split at hf
        · cases hf
        · rename_i env1 hput
          refine ⟨io', _, _, env1, reW, rv, hput, fun σ2 re2 f2 l2 => ⟨wipe_same (fun j hj => f2 j fun z => hj (hsub j z)) l2, ?_⟩⟩
          split at hf
          · rename_i Sa hg
            refine ⟨io', S, env1, .ok true, Sa, rs', re2, hg, fun io3 H3 b e3 rs3 eb => ?_⟩
            cases eb
            rw [if_pos rfl]
            split at hf
            · rename_i y Sb he
              refine ⟨io3, Sa, env1, .ok y, Sb, rs3, re2.mono e3, he, fun io4 H4 v e4 rs4 rv4 => ?_⟩
              split at hf
              · rename_i acc hacc
                split at hf
                · rename_i hsz
                  have hat4 : io4[S1.length]? = some D := e4.get (e3.get (ex'.get hat))
                  have hD4 := rs4.obj _ _ _ hacc hat4
                  obtain ⟨ws, w1, w2⟩ := hD4
                  obtain ⟨rs5, ex5⟩ := rs4.write hacc hat4 (w2.append (RVs.one rv4))
                  exact ⟨ws, w1, by rw [← w2.length]; exact hsz, io4, _, (((ex.trans ex').trans e3).trans e4).trans ex5, rs5, hf⟩
                · cases hf
              · cases hf
            · cases hf
          · rename_i Sa hg
            refine ⟨io', S, env1, .ok false, Sa, rs', re2, hg, fun io3 H3 b e3 rs3 eb => ?_⟩
            cases eb
            rw [if_neg Bool.false_ne_true]
            exact ⟨io3, Sa, (ex.trans ex').trans e3, rs3, hf⟩
          · cases hf
      · cases hf
    · rw [List.drop_eq_nil_of_le (by omega)] at hf
      unfold lcD at hf
      split at hf
      · rename_i hok
        cases hf
        refine .inl ⟨(ok i io _ H (ex0.trans ex) rs hok).1 (by omega), hE1 io H (.ref D) (ex0.trans ex) rs ?_⟩
        unfold RV
        exact ⟨D, hat, rfl⟩
      · cases hf
section
variable {X : Cx} {W : XK} {elt tg iter : Expr} {ifs : List Expr} {scope : Scope} {own : List (Str × Nat)} {pos : Pos} {fw : Ev → Sto → Ans Wk} {t : Tg} {gt : Ev → Sto → Ans Bool} {fe : Ev → Sto → Ans D}
theorem d_lc (hc : X.calm = true) (hN : X.N.Nodup) (hi : DI X W tg iter fw) (ok : BlkOk X.N X.env.scope scope own)
    (hg : ∀ (s : Shared) (H : Hp) (C : Addr) (cl : List (Str × Addr)) (fp : List Addr), PG (X.blk s H scope (compEnvC scope cl C X.env) fp) tg (tTg X.K t))
    (ht : ∀ (s : Shared) (H : Hp) (C : Addr) (cl : List (Str × Addr)) (fp : List Addr), PTs (X.blk s H scope (compEnvC scope cl C X.env) fp) ifs (tMT X.K X.mg E0 gt))
    (he : ∀ (s : Shared) (H : Hp) (C : Addr) (cl : List (Str × Addr)) (fp : List Addr), DE (X.blk s H scope (compEnvC scope cl C X.env) fp) E0 elt fe) (hsub : ∀ j ∈ t.slots, j ∈ own.map (·.2)) (hs : ∀ x, foldedSetIterable iter X.env x = pure x := by intro _; rfl) :
    DE X W (.ListComp elt [⟨tg, iter, ifs, 0⟩] scope pos) (dLc fw t gt fe (own.map (·.2))) := pe_weak (pe_lc hc hN hi ok hg ht he hs) fun _ _ _ h => lc_read hsub h
theorem ds_setLc {i : Nat} {y : Str} {py spos : Pos} (hc : X.calm = true) (hN : X.N.Nodup) (hy : X.N[i]? = some y) (hyl : X.env.scope.names.lookup y = some .local)
    (hsw : swapsWith (.ListComp elt [⟨tg, iter, ifs, 0⟩] scope pos) (some (.Name y py)) spos.line X.env = pure true) (hi : DI X W tg iter fw) (ok : BlkOk X.N X.env.scope scope own)
    (hg : ∀ (s : Shared) (H : Hp) (C : Addr) (cl : List (Str × Addr)) (fp : List Addr), PG (X.blk s H scope (compEnvC scope cl C X.env) fp) tg (tTg X.K t))
    (ht : ∀ (s : Shared) (H : Hp) (C : Addr) (cl : List (Str × Addr)) (fp : List Addr), PTs (X.blk s H scope (compEnvC scope cl C X.env) fp) ifs (tMT X.K X.mg E0 gt))
    (he : ∀ (s : Shared) (H : Hp) (C : Addr) (cl : List (Str × Addr)) (fp : List Addr), DE (X.blk s H scope (compEnvC scope cl C X.env) fp) E0 elt fe) (hsub : ∀ j ∈ t.slots, j ∈ own.map (·.2)) (hs : ∀ x, foldedSetIterable iter X.env x = pure x := by intro _; rfl) :
    DS X W (.Assign [.Name y py] (.ListComp elt [⟨tg, iter, ifs, 0⟩] scope pos) spos) (sAsg (.nm i) (dLc fw t gt fe (own.map (·.2)))) :=
  ps_weak (ps_setLc hc hN hy hyl hsw hi ok hg ht he hs) fun E σ H ⟨io, S, env, o, env', S', rs, re, hf, hE⟩ => lc_read hsub (tG_bindS rs re hf hE fun d S1 io1 H1 v _ e1 rs1 re1 rv h1 hE1 => by
    simp only [Tg.put] at h1
    cases h1
    exact hE1 io1 H1 _ Ext.refl rs1 (re1.set i rv))
end

/-! ### defs and their calls -/
abbrev Mir := List D → Sto → Ans D
def spM (K : PySem.W.Frag) (mg : Str → Option Value) (f : Mir) : Sp := fun vs H Q E => ∃ io S ds r S', RS K io S H ∧ RVs K io H ds vs ∧ f ds S = some (r, S') ∧ EndG K mg E (RV K) io H r S' Q
def runB (n m : Nat) (fb : Ev → Sto → AnsS) : Mir := fun ds S => if ds.length = n then match fb (ds.map some ++ List.replicate (m - n) none) S with
    | some (.nx, _, S') => some (.ok .non, S')
    | some (.rt d, _, S') => some (.ok d, S')
    | some (.ex e, _, S') => some (.ex e, S')
    | _ => none
  else none
def dCall (f : Mir) (fs : Ev → Sto → Ans (List D)) : Ev → Sto → Ans D := fun env S => bindR (fs env S) fun ds S1 => f ds S1
theorem RE.start {K : PySem.W.Frag} {io : List Addr} {H : Hp} : ∀ {ds : List D} {vs : List V}, RVs K io H ds vs → ∀ k : Nat, RE K io H (ds.map some ++ List.replicate k none) (vs.map some ++ List.replicate k none) := fun {ds vs} h k => by
  refine ⟨by simp [h.length], fun i d e => ?_⟩
  by_cases hi : i < ds.length
  · rw [List.getElem?_append_left (by simpa using hi), List.getElem?_map] at e
    cases hd : ds[i]? with
    | none => rw [hd] at e; cases e
    | some d' =>
      rw [hd] at e
      cases e
      obtain ⟨v, e1, e2⟩ := h.get hd
      refine ⟨v, ?_, e2⟩
      rw [List.getElem?_append_left (by rw [List.length_map, ← h.length]; exact hi), List.getElem?_map, e1]
      rfl
  · rw [List.getElem?_append_right (by simpa using hi), List.getElem?_replicate] at e
    split at e <;> cases e
section
variable {P : Program} {w : World} {K : PySem.W.Frag} {mg : Str → Option Value} {base : Heap}
/-- THE RULE of a def: by its body -/
theorem fn_body {x qual : Str} {st : Stmt} {f : Addr} {fd : FuncData} {N ps : List Str} {k : Nat} {fb : Ev → Sto → AnsS} (F : Fun K x qual st f fd) (S : FnScope N ps (defScope st))
    (hb : ∀ (cdv : Value) (A : Around) (outer : List Env) (s : Shared) (H : Hp) (E : XK), Room k (A.deeper (envOfC qual (defScope st) s.heap.objs.size f cdv)) → DSs (cxOf (L2.CX P w) P w K mg base N qual (defScope st) f cdv A outer s H E) E (defBody st) fb) :
    FnOk P w K mg base (L2.CX P w) (k + 1) f fd ps (spM K mg (runB ps.length N.length fb)) := by
  refine F.okX S (fun vs H Q E h => ?_) (fun cdv A outer s H vs Q E hr h => ⟨_, hb cdv A outer s H E hr, ?_⟩)
  · obtain ⟨io, S, ds, r, S', rs, rv, hf, hE⟩ := h
    unfold runB at hf
    split at hf
    · rename_i hl
      rw [← hl, rv.length]
    · cases hf
  · obtain ⟨io, S0, ds, r, S', rs, rv, hf, hE⟩ := h
    unfold runB at hf
    split at hf
    · rename_i hl
      have re : RE K io H (ds.map some ++ List.replicate (N.length - ps.length) none) (start N vs) := by
        unfold L2.start
        rw [← rv.length, hl]
        exact RE.start rv _
      cases hb : fb (ds.map some ++ List.replicate (N.length - ps.length) none) S0 with
      | none => rw [hb] at hf; cases hf
      | some q =>
        obtain ⟨o, env', S1⟩ := q
        rw [hb] at hf
        cases o with
        | nx => cases hf; exact ⟨io, S0, _, .nx, env', _, rs, re, hb, fun io' H' σ' e rs' _ => hE io' H' .non e rs' (by simp [RV])⟩
        | rt d => cases hf; exact ⟨io, S0, _, .rt d, env', _, rs, re, hb, fun io' H' v e rs' rv => hE io' H' v e rs' rv⟩
        | ex x => cases hf; exact ⟨io, S0, _, .ex x, env', _, rs, re, hb, hE⟩
        | bk => cases hf
        | ct => cases hf
    · cases hf
/-- a promise that says less: each end that c tells, f tells too, but for what lies behind in the store -/
def D.cl (n : Nat) : D → Prop
  | .ref m => m < n
  | .tup l => ∀ d ∈ l, D.cl n d
  | _ => True
end
section
variable {X : Cx} {W : XK} {f : Addr} {fd : FuncData} {ps : List Str} {k : Nat} {m : Mir} {x : Str} {p pos : Pos} {e : Expr} {es : List Expr} {fs : Ev → Sto → Ans (List D)}
theorem d_call {CX' : CXT} (F : FnOk X.prog X.w X.K X.mg X.base CX' k f fd ps (spM X.K X.mg m)) (hr : Room k X.A) (hg : Gl X x) (hm : X.mg x = some (.ref f)) (hk : PySem.W.keepIn X.K (.ref f) = true) (hb : Binds X.K fd ps []) (hx : Passes CX' X W)
    (ha : DA X W (e :: es) fs) (hdb : (x == ("__debug__" : Str)) = false := by decide) (he : starEach (e :: es) X.env = (false, eval e X.env) :: starEach es X.env := by rfl) (hpl : (backTo pos (starEach es X.env)).any (·.1) = false := by rfl) :
    DE X W (.Call (.Name x p) (e :: es) [] pos) (dCall m fs) := pe_weak (pe_call F hr hg hm hk hb .nil hx ha hdb he hpl) fun σ H Q ⟨io, S, env, r, S', rs, re, hf, hE⟩ =>
  tG_bind rs re hf hE fun ds S1 io1 H1 v e1 rs1 re1 rv1 h1 hE1 => ⟨io1, S1, ds, r, S', rs1, by rw [List.append_nil]; exact rv1, h1, hE1⟩
theorem d_call0 {CX' : CXT} (F : FnOk X.prog X.w X.K X.mg X.base CX' k f fd ps (spM X.K X.mg m)) (hr : Room k X.A) (hg : Gl X x) (hm : X.mg x = some (.ref f)) (hk : PySem.W.keepIn X.K (.ref f) = true) (hb : Binds X.K fd ps []) (hx : Passes CX' X W)
    (hdb : (x == ("__debug__" : Str)) = false := by decide) : DE X W (.Call (.Name x p) [] [] pos) (dCall m dNil) := pe_weak (pe_call0 F hr hg hm hk hb .nil hx hdb) fun σ H Q ⟨io, S, env, r, S', rs, re, hf, hE⟩ =>
  ⟨io, S, [], r, S', rs, RVs.nil, hf, hE⟩
end
end DL
namespace DL
open PySem PySem.Spec PyProof.Rows L2 RT RZ

/-! ### data as the library's data -/
mutual
def D.py : D → Option PyData
  | .non => some .none
  | .bl b => some (.bool b)
  | .int i => some (.int i)
  | .str x => some (.str x)
  | .tup l => match D.pys l with
    | some ps => some (.tuple ps)
    | none => none
  | .ref _ => none
def D.pys : List D → Option (List PyData)
  | [] => some []
  | d :: ds => match D.py d, D.pys ds with
    | some p, some ps => some (p :: ps)
    | _, _ => none
end
def toPy (S : Sto) (d : D) : Option PyData := match d with
  | .ref n => match seqOf (.ref n) S with
    | some ds => match D.pys ds with
      | some ps => some (.list ps)
      | none => none
    | none => none
  | d => d.py
section
variable {K : PySem.W.Frag} {io : List Addr} {H : Hp} {S : Sto}
mutual
theorem py_Dp : ∀ (d : D) (v : V) (p : PyData), RV K io H d v → d.py = some p → Dp K H v p
  | .non, _, _, h, e => by simp only [RV] at h; subst h; cases e; exact .non
  | .bl _, _, _, h, e => by simp only [RV] at h; subst h; cases e; exact .bl _
  | .int _, _, _, h, e => by simp only [RV] at h; subst h; cases e; exact .int _
  | .str _, _, _, h, e => by simp only [RV] at h; subst h; cases e; exact .str _
  | .tup l, v, p, h, e => by
    simp only [RV] at h
    obtain ⟨a, vs, rfl, h1, h2⟩ := h
    simp only [D.py] at e
    split at e
    · rename_i ps hp
      cases e
      exact .tup h1 (pys_Dp l vs ps h2 hp)
    · cases e
  | .ref _, _, _, _, e => by cases e
theorem pys_Dp : ∀ (ds : List D) (vs : List V) (ps : List PyData), RVs K io H ds vs → D.pys ds = some ps → DpAll K H vs ps
  | [], _, _, h, e => by simp only [RVs] at h; subst h; cases e; exact .nil
  | d :: ds, _, ps, h, e => by
    simp only [RVs] at h
    obtain ⟨v, r, rfl, h1, h2⟩ := h
    simp only [D.pys] at e
    split at e
    · rename_i p q hp hq
      cases e
      exact .cons (py_Dp d v p h1 hp) (pys_Dp ds r q h2 hq)
    · cases e
end
theorem toPy_Dp {d : D} {v : V} {p : PyData} (rs : RS K io S H) (r : RV K io H d v) (h : toPy S d = some p) : Dp K H v p := by
  cases d with
  | ref n =>
    simp only [toPy] at h
    split at h
    · rename_i ds hs
      split at h
      · rename_i ps hp
        cases h
        obtain ⟨a, vs, rfl, e2, e3, e4⟩ := rs.seq (seq_ref hs) r
        exact .lst e3 (pys_Dp ds vs ps e4 hp)
      · cases h
    · cases h
  | _ => exact py_Dp _ v p r h
end

/-! ### two-place operations -/
def fit (x : D) (S : Sto) : Option (D × Sto) := some (x, S)
open Classical in
noncomputable def gAdd : D → D → Sto → Option (D × Sto)
  | .int i, .int j, S => some (.int (i + j), S)
  | .str x, .str y, S => if x.length + y.length ≤ sizeLine then some (.str (x ++ y), S) else none
  | .tup xs, .tup ys, S => if xs.length + ys.length ≤ sizeLine then some (.tup (xs ++ ys), S) else none
  | .ref l, .ref m, S => match S[l]?, S[m]? with
    | some (.lst xs), some (.lst ys) => if xs.length + ys.length ≤ sizeLine then some (.ref S.length, S ++ [.lst (xs ++ ys)]) else none
    | _, _ => none
  | .int i, .bl k, S => some (.int (i + b2i k), S)
  | _, _, _ => none
def gSub : D → D → Sto → Option (D × Sto)
  | .int i, .int j, S => some (.int (i - j), S)
  | _, _, _ => none
open Classical in
noncomputable def gMul : D → D → Sto → Option (D × Sto)
  | .int i, .int j, S => if CMul i j ∨ CMulW i j ∨ IntMulOk i j then some (.int (i * j), S) else none
  | .str x, .int n, S => if MulOk x n then some (.str (Txt.mul x n), S) else none
  | .ref l, .int k, S => match S[l]? with
    | some (.lst xs) => if -(2 ^ 63) ≤ k ∧ k < 2 ^ 63 ∧ xs.length * k.toNat ≤ sizeLine then some (.ref S.length, S ++ [.lst (List.replicate k.toNat xs).flatten]) else none
    | _ => none
  | _, _, _ => none
open Classical in
noncomputable def gFdiv : D → D → Sto → Option (D × Sto)
  | .int i, .int j, S => if CDivW i j then some (.int (i / j), S) else none
  | _, _, _ => none
def gMod : D → D → Sto → Option (D × Sto)
  | .int i, .int j, S => if 0 < j then some (.int (i % j), S) else none
  | _, _, _ => none
open Classical in
noncomputable def gPow : D → D → Sto → Option (D × Sto)
  | .int i, .int j, S => if CPow i j then some (.int (i ^ j.toNat), S) else none
  | _, _, _ => none
def deepEq (a b : D) (S : Sto) : Option Bool := match toPy S a, toPy S b with
  | some d, some e => if SeqAt.shaped d = true ∧ SeqAt.shaped e = true then some (PyData.eqv d e) else none
  | _, _ => none
def eqB : D → D → Sto → Option Bool
  | .int i, .int j, _ => some (decide (i = j))
  | .str x, .str y, _ => some (decide (x = y))
  | .bl x, .bl y, _ => some (decide (x = y))
  | .non, .non, _ => some true
  | .non, .str _, _ => some false
  | .str _, .non, _ => some false
  | a, b, S => deepEq a b S
def blS (x : Option Bool) (S : Sto) : Option (D × Sto) := match x with
  | some b => some (.bl b, S)
  | none => none
def gEq (a b : D) (S : Sto) : Option (D × Sto) := blS (eqB a b S) S
def gNe (a b : D) (S : Sto) : Option (D × Sto) := blS ((eqB a b S).map (!·)) S
def gLt : D → D → Sto → Option (D × Sto)
  | .int i, .int j, S => some (.bl (decide (i < j)), S)
  | .str x, .str y, S => some (.bl (decide (x.cps.toList < y.cps.toList)), S)
  | _, _, _ => none
def gLe : D → D → Sto → Option (D × Sto)
  | .int i, .int j, S => some (.bl (decide (i ≤ j)), S)
  | .str x, .str y, S => some (.bl (!decide (y.cps.toList < x.cps.toList)), S)
  | _, _, _ => none
def gGt : D → D → Sto → Option (D × Sto)
  | .int i, .int j, S => some (.bl (decide (j < i)), S)
  | .str x, .str y, S => some (.bl (decide (y.cps.toList < x.cps.toList)), S)
  | _, _, _ => none
def gGe : D → D → Sto → Option (D × Sto)
  | .int i, .int j, S => some (.bl (decide (j ≤ i)), S)
  | .str x, .str y, S => some (.bl (!decide (x.cps.toList < y.cps.toList)), S)
  | _, _, _ => none
def isNon : D → Bool
  | .non => true
  | _ => false
def gIs : D → D → Sto → Option (D × Sto)
  | a, .non, S => some (.bl (isNon a), S)
  | _, _, _ => none
def gIsNot : D → D → Sto → Option (D × Sto)
  | a, .non, S => some (.bl (!isNon a), S)
  | _, _, _ => none
def D.flat : D → Bool
  | .non => true
  | .bl _ => true
  | .int _ => true
  | .str _ => true
  | _ => false
def eqF : D → D → Bool
  | .non, .non => true
  | .bl a, .bl b => a == b
  | .bl a, .int b => (if a then 1 else 0) == b
  | .int a, .bl b => a == (if b then 1 else 0)
  | .int a, .int b => a == b
  | .str a, .str b => a == b
  | _, _ => false
def inF (x : D) (xs : List D) : Bool := xs.any fun y => eqF y x
def inB (x y : D) (S : Sto) : Option Bool := match x, y with
  | .str a, .str b => some (!(Builtin.Str.occurrences b a 0 b.length 1).isEmpty)
  | x, y => match seqOf y S with
    | some ds => if x.flat = true ∧ ds.all D.flat = true then some (inF x ds) else none
    | none => none
def gIn (a b : D) (S : Sto) : Option (D × Sto) := blS (inB a b S) S
def gNotIn (a b : D) (S : Sto) : Option (D × Sto) := blS ((inB a b S).map (!·)) S
def gIx (a b : D) (S : Sto) : Option (D × Sto) := match a, b with
  | .str z, .int i => if z.length ≤ sizeLine then match atI z.cps.toList i with
      | some c => some (.str ⟨#[c]⟩, S)
      | none => none
    else none
  | a, .int i => match seqOf a S with
    | some ds => match atI ds i with
      | some d => some (d, S)
      | none => none
    | none => none
  | _, _ => none

section
variable {X : Cx}
theorem sIntII {K : PySem.W.Frag} {io : List Addr} {H : Hp} {i : Int} {v : V} (h : RV K io H (.int i) v) : v = .int i := by simpa [RV] using h
theorem sStr {K : PySem.W.Frag} {io : List Addr} {H : Hp} {i : Str} {v : V} (h : RV K io H (.str i) v) : v = .str i := by simpa [RV] using h
theorem sBl {K : PySem.W.Frag} {io : List Addr} {H : Hp} {i : Bool} {v : V} (h : RV K io H (.bl i) v) : v = .bl i := by simpa [RV] using h
theorem sNon {K : PySem.W.Frag} {io : List Addr} {H : Hp} {v : V} (h : RV K io H .non v) : v = .non := by simpa [RV] using h
theorem mInt {K : PySem.W.Frag} {io : List Addr} {H : Hp} {i : Int} : RV K io H (.int i) (.int i) := by simp [RV]
theorem mStr {K : PySem.W.Frag} {io : List Addr} {H : Hp} {i : Str} : RV K io H (.str i) (.str i) := by simp [RV]
theorem mBl {K : PySem.W.Frag} {io : List Addr} {H : Hp} {i : Bool} : RV K io H (.bl i) (.bl i) := by simp [RV]
theorem mNon {K : PySem.W.Frag} {io : List Addr} {H : Hp} : RV K io H .non .non := by simp [RV]
theorem mRef {K : PySem.W.Frag} {io : List Addr} {H : Hp} {n : Nat} {a : Addr} (h : io[n]? = some a) : RV K io H (.ref n) (.ref a) := by
  unfold RV
  exact ⟨a, h, rfl⟩
/-- ints -/
theorem opII {f : Value → Value → Sem Value} {C : Int → Int → Prop} {r : Int → Int → Int} (h : OpR X f (rI C fun i j => .int (r i j))) {pins : List (Addr × Obj)} {s : Shared} {σ : L2.St} {H : Hp} {x y : V} {v u : Value} {Q : VK} {io : List Addr} {i j : Int} (I : Inv X pins σ H s) (rx : RelV x v) (ry : RelV y u)
    (r1 : RV X.K io H (.int i) x) (r2 : RV X.K io H (.int j) y) (c : C i j) (q : Q (.int (r i j)) H) : wpAny (model X.prog X.w) X.A (f v u) (EP X pins σ Q) X.xe s :=
  h pins s σ H x y v u Q I rx ry ⟨i, j, sIntII r1, sIntII r2, c, q⟩
theorem o_add : OpD X (binaryOp .Add) gAdd := by
  intro pins s σ H x y v u Q I rx ry h
  obtain ⟨io, S, a, b, d, S', rs, r1, r2, hg, q⟩ := h
  unfold gAdd at hg
  split at hg
  · cases hg
    exact op_add pins s σ H x y v u Q I rx ry ⟨_, _, sIntII r1, sIntII r2, q io H _ Ext.refl rs mInt⟩
  · split at hg
    · rename_i hz
      cases hg
      exact op_add_str pins s σ H x y v u Q I rx ry ⟨_, _, sStr r1, sStr r2, hz, q io H _ Ext.refl rs mStr⟩
    · cases hg
  · split at hg
    · rename_i xs ys hz
      cases hg
      unfold RV at r1 r2
      obtain ⟨a, vs, rfl, p1, p2⟩ := r1
      obtain ⟨b, ws, rfl, p3, p4⟩ := r2
      refine op_catA pins s σ H _ _ v u Q I rx ry ⟨a, b, vs, ws, rfl, rfl, p1, p3, by rw [← p2.length, ← p4.length]; exact hz, fun e => ?_, fun e1 e2 => ?_, fun _ _ p hp => ?_⟩
      · subst e
        have : xs = [] := List.eq_nil_of_length_eq_zero p2.length
        subst this
        refine q io H _ Ext.refl rs ?_
        unfold RV
        exact ⟨b, ws, rfl, p3, by simpa using p4⟩
      · subst e2
        have : ys = [] := List.eq_nil_of_length_eq_zero p4.length
        subst this
        refine q io H _ Ext.refl rs ?_
        unfold RV
        exact ⟨a, vs, rfl, p1, by simpa using p2⟩
      · refine q io _ _ (Ext.fresh hp) (rs.tupNew hp) ?_
        unfold RV
        exact ⟨p, _, rfl, SqT.of upd_same, RVs.mono (Ext.fresh hp) _ _ (p2.append p4)⟩
    · cases hg
  · split at hg
    · rename_i xs ys h1 h2
      split at hg
      · rename_i hz
        cases hg
        obtain ⟨a, vs, rfl, _, p1, p2⟩ := rs.lst h1 r1
        obtain ⟨b, ws, rfl, _, p3, p4⟩ := rs.lst h2 r2
        exact op_cat pins s σ H _ _ v u Q I rx ry ⟨a, b, vs, ws, rfl, rfl, p1, p3, by rw [← p2.length, ← p4.length]; exact hz, fun p hp => q _ _ _ (Ext.new hp) (rs.lstNew hp (p2.append p4)) (mRef rs.lastNew)⟩
      · cases hg
    · cases hg
  · cases hg
    exact op_add_ib pins s σ H x y v u Q I rx ry ⟨_, _, sIntII r1, sBl r2, q io H _ Ext.refl rs mInt⟩
  · cases hg
theorem o_sub : OpD X (binaryOp .Sub) gSub := by
  intro pins s σ H x y v u Q I rx ry h
  obtain ⟨io, S, a, b, d, S', rs, r1, r2, hg, q⟩ := h
  unfold gSub at hg
  split at hg
  · cases hg
    exact op_sub pins s σ H x y v u Q I rx ry ⟨_, _, sIntII r1, sIntII r2, q io H _ Ext.refl rs mInt⟩
  · cases hg
def gIAdd : D → D → Sto → Option (D × Sto)
  | .int i, .int j, S => some (.int (i + j), S)
  | .str x, .str y, S => if x.length + y.length ≤ sizeLine then some (.str (x ++ y), S) else none
  | _, _, _ => none
theorem o_iadd : OpD X (inplaceOp .Add) gIAdd := by
  intro pins s σ H x y v u Q I rx ry h
  obtain ⟨io, S, a, b, d, S', rs, r1, r2, hg, q⟩ := h
  unfold gIAdd at hg
  split at hg
  · cases hg
    exact iop_add pins s σ H x y v u Q I rx ry ⟨_, _, sIntII r1, sIntII r2, q io H _ Ext.refl rs mInt⟩
  · split at hg
    · rename_i hz
      cases hg
      exact iop_add_str pins s σ H x y v u Q I rx ry ⟨_, _, sStr r1, sStr r2, hz, q io H _ Ext.refl rs mStr⟩
    · cases hg
  · cases hg
theorem op_mulI : OpR X (binaryOp .Mult) (rI IntMulOk fun i j => .int (i * j)) := opI fun _ _ _ _ _ _ _ hc q => mul_int q hc
theorem o_mul : OpD X (binaryOp .Mult) gMul := by
  intro pins s σ H x y v u Q I rx ry h
  obtain ⟨io, S, a, b, d, S', rs, r1, r2, hg, q⟩ := h
  unfold gMul at hg
  split at hg
  · split at hg
    · rename_i hc
      cases hg
      rcases hc with hc | hc | hc
      · exact op_mul pins s σ H x y v u Q I rx ry ⟨_, _, sIntII r1, sIntII r2, hc, q io H _ Ext.refl rs mInt⟩
      · exact op_mulW pins s σ H x y v u Q I rx ry ⟨_, _, sIntII r1, sIntII r2, hc, q io H _ Ext.refl rs mInt⟩
      · exact op_mulI pins s σ H x y v u Q I rx ry ⟨_, _, sIntII r1, sIntII r2, hc, q io H _ Ext.refl rs mInt⟩
    · cases hg
  · split at hg
    · rename_i hc
      cases hg
      have e1 := sStr r1
      have e2 := sIntII r2
      subst e1 e2
      obtain ⟨t, rfl⟩ := rx
      obtain ⟨t', rfl⟩ := ry
      exact SB.mul hc fun t2 k => ⟨.str _, H, I.tok _, ⟨_, rfl⟩, q io H _ Ext.refl rs mStr⟩
    · cases hg
  · split at hg
    · rename_i xs h1
      split at hg
      · rename_i hz
        cases hg
        obtain ⟨a, vs, rfl, _, p1, p2⟩ := rs.lst h1 r1
        have rep : ∀ k : Nat, RVs X.K io H (List.replicate k xs).flatten (List.replicate k vs).flatten := fun k => by
          induction k with
          | zero => exact RVs.nil
          | succ k ih =>
            rw [List.replicate_succ, List.replicate_succ, List.flatten_cons, List.flatten_cons]
            exact p2.append ih
        exact op_rep pins s σ H _ _ v u Q I rx ry ⟨a, _, vs, rfl, sIntII r2, p1, hz.1, hz.2.1, by rw [← p2.length]; exact hz.2.2, fun p hp => q _ _ _ (Ext.new hp) (rs.lstNew hp (rep _)) (mRef rs.lastNew)⟩
      · cases hg
    · cases hg
  · cases hg
theorem o_fdiv : OpD X (binaryOp .FloorDiv) gFdiv := by
  intro pins s σ H x y v u Q I rx ry h
  obtain ⟨io, S, a, b, d, S', rs, r1, r2, hg, q⟩ := h
  unfold gFdiv at hg
  split at hg
  · split at hg
    · rename_i hc
      cases hg
      exact op_fdivW pins s σ H x y v u Q I rx ry ⟨_, _, sIntII r1, sIntII r2, hc, q io H _ Ext.refl rs mInt⟩
    · cases hg
  · cases hg
theorem o_mod : OpD X (binaryOp .Mod) gMod := by
  intro pins s σ H x y v u Q I rx ry h
  obtain ⟨io, S, a, b, d, S', rs, r1, r2, hg, q⟩ := h
  unfold gMod at hg
  split at hg
  · split at hg
    · rename_i hc
      cases hg
      exact op_mod pins s σ H x y v u Q I rx ry ⟨_, _, sIntII r1, sIntII r2, hc, q io H _ Ext.refl rs mInt⟩
    · cases hg
  · cases hg
theorem o_pow : OpD X (binaryOp .Pow) gPow := by
  intro pins s σ H x y v u Q I rx ry h
  obtain ⟨io, S, a, b, d, S', rs, r1, r2, hg, q⟩ := h
  unfold gPow at hg
  split at hg
  · split at hg
    · rename_i hc
      cases hg
      exact op_pow pins s σ H x y v u Q I rx ry ⟨_, _, sIntII r1, sIntII r2, hc, q io H _ Ext.refl rs mInt⟩
    · cases hg
  · cases hg
theorem deep_eq {K : PySem.W.Frag} {io : List Addr} {H : Hp} {S : Sto} {a b : D} {x y : V} {r : Bool} (rs : RS K io S H) (r1 : RV K io H a x) (r2 : RV K io H b y) (h : deepEq a b S = some r) : ∃ d e, Dp K H x d ∧ Dp K H y e ∧ SeqAt.shaped d = true ∧ SeqAt.shaped e = true ∧ r = PyData.eqv d e := by
  unfold deepEq at h
  split at h
  · rename_i d e h1 h2
    split at h
    · rename_i hc
      cases h
      exact ⟨d, e, toPy_Dp rs r1 h1, toPy_Dp rs r2 h2, hc.1, hc.2, rfl⟩
    · cases h
  · cases h
theorem eqB_cases {K : PySem.W.Frag} {io : List Addr} {H : Hp} {S : Sto} {a b : D} {x y : V} {r : Bool} (rs : RS K io S H) (r1 : RV K io H a x) (r2 : RV K io H b y) (h : eqB a b S = some r) :
    (scal x y = true ∧ r = decide (x = y)) ∨ ∃ d e, Dp K H x d ∧ Dp K H y e ∧ SeqAt.shaped d = true ∧ SeqAt.shaped e = true ∧ r = PyData.eqv d e := by
  unfold eqB at h
  split at h
  · cases h
    have e1 := sIntII r1; have e2 := sIntII r2
    subst e1 e2
    exact .inl ⟨rfl, by simp⟩
  · cases h
    have e1 := sStr r1; have e2 := sStr r2
    subst e1 e2
    exact .inl ⟨rfl, by simp⟩
  · cases h
    have e1 := sBl r1; have e2 := sBl r2
    subst e1 e2
    exact .inl ⟨rfl, by simp⟩
  · cases h
    have e1 := sNon r1; have e2 := sNon r2
    subst e1 e2
    exact .inl ⟨rfl, by simp⟩
  · cases h
    have e1 := sNon r1; have e2 := sStr r2
    subst e1 e2
    exact .inl ⟨rfl, by simp⟩
  · cases h
    have e1 := sStr r1; have e2 := sNon r2
    subst e1 e2
    exact .inl ⟨rfl, by simp⟩
  · exact .inr (deep_eq rs r1 r2 h)
theorem blS_some {x : Option Bool} {S S' : Sto} {d : D} (h : blS x S = some (d, S')) : ∃ b, x = some b ∧ d = .bl b ∧ S' = S := by
  unfold blS at h
  split at h
  · cases h
    exact ⟨_, rfl, rfl, rfl⟩
  · cases h
theorem o_eq (hu : X.A.units + 64 < cLine) : OpD X (compareOp .Eq) gEq := by
  intro pins s σ H x y v u Q I rx ry h
  obtain ⟨io, S, a, b, d, S', rs, r1, r2, hg, q⟩ := h
  obtain ⟨r, h1, rfl, rfl⟩ := blS_some hg
  rcases eqB_cases rs r1 r2 h1 with ⟨h2, rfl⟩ | ⟨d, e, p1, p2, p3, p4, rfl⟩
  · exact op_eq pins s σ H x y v u Q I rx ry ⟨h2, q io H _ Ext.refl rs mBl⟩
  · exact op_eqD hu pins s σ H x y v u Q I rx ry ⟨d, e, p1, p2, p3, p4, q io H _ Ext.refl rs mBl⟩
theorem o_ne (hu : X.A.units + 64 < cLine) : OpD X (compareOp .NotEq) gNe := by
  intro pins s σ H x y v u Q I rx ry h
  obtain ⟨io, S, a, b, d, S', rs, r1, r2, hg, q⟩ := h
  obtain ⟨r, h1, rfl, rfl⟩ := blS_some hg
  obtain ⟨r', h1', rfl⟩ : ∃ r', eqB a b S' = some r' ∧ r = !r' := by
    cases he : eqB a b S' with
    | none => rw [he] at h1; cases h1
    | some r' => rw [he] at h1; cases h1; exact ⟨r', rfl, rfl⟩
  rcases eqB_cases rs r1 r2 h1' with ⟨h2, rfl⟩ | ⟨d, e, p1, p2, p3, p4, rfl⟩
  · exact op_ne pins s σ H x y v u Q I rx ry ⟨h2, q io H _ Ext.refl rs mBl⟩
  · exact op_neD hu pins s σ H x y v u Q I rx ry ⟨d, e, p1, p2, p3, p4, q io H _ Ext.refl rs mBl⟩
theorem o_lt : OpD X (compareOp .Lt) gLt := by
  intro pins s σ H x y v u Q I rx ry h
  obtain ⟨io, S, a, b, d, S', rs, r1, r2, hg, q⟩ := h
  unfold gLt at hg
  split at hg
  · cases hg
    exact op_lt pins s σ H x y v u Q I rx ry ⟨_, _, sIntII r1, sIntII r2, q io H _ Ext.refl rs mBl⟩
  · cases hg
    exact op_lt_str pins s σ H x y v u Q I rx ry ⟨_, _, sStr r1, sStr r2, q io H _ Ext.refl rs mBl⟩
  · cases hg
theorem o_le : OpD X (compareOp .LtE) gLe := by
  intro pins s σ H x y v u Q I rx ry h
  obtain ⟨io, S, a, b, d, S', rs, r1, r2, hg, q⟩ := h
  unfold gLe at hg
  split at hg
  · cases hg
    exact op_le pins s σ H x y v u Q I rx ry ⟨_, _, sIntII r1, sIntII r2, q io H _ Ext.refl rs mBl⟩
  · cases hg
    exact op_le_str pins s σ H x y v u Q I rx ry ⟨_, _, sStr r1, sStr r2, q io H _ Ext.refl rs mBl⟩
  · cases hg
theorem o_gt : OpD X (compareOp .Gt) gGt := by
  intro pins s σ H x y v u Q I rx ry h
  obtain ⟨io, S, a, b, d, S', rs, r1, r2, hg, q⟩ := h
  unfold gGt at hg
  split at hg
  · cases hg
    exact op_gt pins s σ H x y v u Q I rx ry ⟨_, _, sIntII r1, sIntII r2, q io H _ Ext.refl rs mBl⟩
  · cases hg
    exact op_gt_str pins s σ H x y v u Q I rx ry ⟨_, _, sStr r1, sStr r2, q io H _ Ext.refl rs mBl⟩
  · cases hg
theorem o_ge : OpD X (compareOp .GtE) gGe := by
  intro pins s σ H x y v u Q I rx ry h
  obtain ⟨io, S, a, b, d, S', rs, r1, r2, hg, q⟩ := h
  unfold gGe at hg
  split at hg
  · cases hg
    exact op_ge pins s σ H x y v u Q I rx ry ⟨_, _, sIntII r1, sIntII r2, q io H _ Ext.refl rs mBl⟩
  · cases hg
    exact op_ge_str pins s σ H x y v u Q I rx ry ⟨_, _, sStr r1, sStr r2, q io H _ Ext.refl rs mBl⟩
  · cases hg
theorem rv_non {K : PySem.W.Frag} {io : List Addr} {H : Hp} {a : D} {x : V} (r : RV K io H a x) : decide (x = .non) = isNon a := by
  cases a with
  | non => simp only [RV] at r; subst r; rfl
  | bl _ => simp only [RV] at r; subst r; rfl
  | int _ => simp only [RV] at r; subst r; rfl
  | str _ => simp only [RV] at r; subst r; rfl
  | tup _ => simp only [RV] at r; obtain ⟨a, _, rfl, _⟩ := r; rfl
  | ref _ => simp only [RV] at r; obtain ⟨a, _, rfl⟩ := r; rfl
theorem o_is : OpD X (compareOp .Is) gIs := by
  intro pins s σ H x y v u Q I rx ry h
  obtain ⟨io, S, a, b, d, S', rs, r1, r2, hg, q⟩ := h
  unfold gIs at hg
  split at hg
  · cases hg
    exact op_isN pins s σ H x y v u Q I rx ry ⟨sNon r2, by rw [rv_non r1]; exact q io H _ Ext.refl rs mBl⟩
  · cases hg
theorem o_isnot : OpD X (compareOp .IsNot) gIsNot := by
  intro pins s σ H x y v u Q I rx ry h
  obtain ⟨io, S, a, b, d, S', rs, r1, r2, hg, q⟩ := h
  unfold gIsNot at hg
  split at hg
  · cases hg
    exact op_notN pins s σ H x y v u Q I rx ry ⟨sNon r2, by rw [rv_non r1]; exact q io H _ Ext.refl rs mBl⟩
  · cases hg
theorem flat_V {K : PySem.W.Frag} {io : List Addr} {H : Hp} {a : D} {x : V} (r : RV K io H a x) (h : a.flat = true) : flatV x = true := by
  cases a with
  | non => simp only [RV] at r; subst r; rfl
  | bl _ => simp only [RV] at r; subst r; rfl
  | int _ => simp only [RV] at r; subst r; rfl
  | str _ => simp only [RV] at r; subst r; rfl
  | tup _ => cases h
  | ref _ => cases h
theorem eqF_V {K : PySem.W.Frag} {io : List Addr} {H : Hp} {a b : D} {x y : V} (r : RV K io H a x) (q : RV K io H b y) (h : a.flat = true) (h' : b.flat = true) : eqV x y = eqF a b := by
  cases a <;> first | cases h | skip
  all_goals (cases b <;> first | cases h' | skip)
  all_goals (simp only [RV] at r q; subst r; subst q; rfl)
theorem flats_V {K : PySem.W.Frag} {io : List Addr} {H : Hp} : ∀ {ds : List D} {vs : List V}, RVs K io H ds vs → ds.all D.flat = true → vs.all flatV = true
  | [], _, r, _ => by simp only [RVs] at r; subst r; rfl
  | d :: ds, _, r, h => by
    simp only [RVs] at r
    obtain ⟨v, w, rfl, r1, r2⟩ := r
    simp only [List.all_cons, Bool.and_eq_true] at h ⊢
    exact ⟨flat_V r1 h.1, flats_V r2 h.2⟩
theorem inF_V {K : PySem.W.Frag} {io : List Addr} {H : Hp} {a : D} {x : V} (ra : RV K io H a x) (ha : a.flat = true) : ∀ {ds : List D} {vs : List V}, RVs K io H ds vs → ds.all D.flat = true → inV x vs = inF a ds
  | [], _, r, _ => by simp only [RVs] at r; subst r; rfl
  | d :: ds, _, r, h => by
    simp only [RVs] at r
    obtain ⟨v, w, rfl, r1, r2⟩ := r
    simp only [List.all_cons, Bool.and_eq_true] at h
    show (eqV v x || inV x w) = (eqF d a || inF a ds)
    rw [eqF_V r1 ra h.1 ha, inF_V ra ha r2 h.2]
theorem inB_cases {K : PySem.W.Frag} {io : List Addr} {H : Hp} {S : Sto} {a b : D} {x y : V} {r : Bool} (rs : RS K io S H) (r1 : RV K io H a x) (r2 : RV K io H b y) (h : inB a b S = some r) :
    (∃ i j, x = .str i ∧ y = .str j ∧ r = !(Builtin.Str.occurrences j i 0 j.length 1).isEmpty) ∨ ∃ p xs, y = .ref p ∧ (SqL K H p xs ∨ SqT K H p xs) ∧ flatV x = true ∧ xs.all flatV = true ∧ r = inV x xs := by
  unfold inB at h
  split at h
  · cases h
    exact .inl ⟨_, _, sStr r1, sStr r2, rfl⟩
  · split at h
    · rename_i ds hs
      split at h
      · rename_i hc
        cases h
        obtain ⟨p, vs, rfl, e2, e3⟩ := RV.seq rs r2 hs
        exact .inr ⟨p, vs, rfl, e2, flat_V r1 hc.1, flats_V e3 hc.2, (inF_V r1 hc.1 e3 hc.2).symm⟩
      · cases h
    · cases h
theorem o_in : OpD X (compareOp .In) gIn := by
  intro pins s σ H x y v u Q I rx ry h
  obtain ⟨io, S, a, b, d, S', rs, r1, r2, hg, q⟩ := h
  obtain ⟨r, h1, rfl, rfl⟩ := blS_some hg
  rcases inB_cases rs r1 r2 h1 with ⟨i, j, e1, e2, rfl⟩ | ⟨p, xs, e1, e2, e3, e4, rfl⟩
  · exact op_in_str pins s σ H x y v u Q I rx ry ⟨i, j, e1, e2, q io H _ Ext.refl rs mBl⟩
  · exact op_in_seq pins s σ H x y v u Q I rx ry ⟨p, xs, e1, e2, e3, e4, q io H _ Ext.refl rs mBl⟩
theorem o_notin : OpD X (compareOp .NotIn) gNotIn := by
  intro pins s σ H x y v u Q I rx ry h
  obtain ⟨io, S, a, b, d, S', rs, r1, r2, hg, q⟩ := h
  obtain ⟨r, h1, rfl, rfl⟩ := blS_some hg
  obtain ⟨r', h1', rfl⟩ : ∃ r', inB a b S' = some r' ∧ r = !r' := by
    cases he : inB a b S' with
    | none => rw [he] at h1; cases h1
    | some r' => rw [he] at h1; cases h1; exact ⟨r', rfl, rfl⟩
  rcases inB_cases rs r1 r2 h1' with ⟨i, j, e1, e2, rfl⟩ | ⟨p, xs, e1, e2, e3, e4, rfl⟩
  · exact op_notIn_str pins s σ H x y v u Q I rx ry ⟨i, j, e1, e2, q io H _ Ext.refl rs mBl⟩
  · exact op_notIn_seq pins s σ H x y v u Q I rx ry ⟨p, xs, e1, e2, e3, e4, q io H _ Ext.refl rs mBl⟩
theorem RVs.at {K : PySem.W.Frag} {io : List Addr} {H : Hp} {ds : List D} {vs : List V} {i : Int} {d : D} (h : RVs K io H ds vs) (e : atI ds i = some d) : ∃ v, atI vs i = some v ∧ RV K io H d v := by
  unfold atI at e ⊢
  rw [← h.length]
  cases hn : ixN ds.length i with
  | none => rw [hn] at e; cases e
  | some j =>
    rw [hn] at e
    exact h.get e
theorem gIx_cases {K : PySem.W.Frag} {io : List Addr} {H : Hp} {S S' : Sto} {a b d : D} {x y : V} {Q : VK} (rs : RS K io S H) (r1 : RV K io H a x) (r2 : RV K io H b y) (h : gIx a b S = some (d, S')) (q : ∀ io' H' v, Ext K io H io' H' → RS K io' S' H' → RV K io' H' d v → Q v H') : rIx K x y H Q := by
  unfold gIx at h
  split at h
  · split at h
    · rename_i hz
      split at h
      · rename_i c hc
        cases h
        exact .inr (.inr ⟨_, _, c, sStr r1, sIntII r2, hz, hc, q io H _ Ext.refl rs mStr⟩)
      · cases h
    · cases h
  · split at h
    · rename_i ds hs
      split at h
      · rename_i e he
        cases h
        obtain ⟨p, vs, rfl, e2, e3⟩ := RV.seq rs r1 hs
        obtain ⟨w, w1, w2⟩ := e3.at he
        rcases e2 with e2 | e2
        · exact .inl ⟨p, vs, _, w, rfl, sIntII r2, e2, w1, q io H _ Ext.refl rs w2⟩
        · exact .inr (.inl ⟨p, vs, _, w, rfl, sIntII r2, e2, w1, q io H _ Ext.refl rs w2⟩)
      · cases h
    · cases h
  · cases h
theorem i_ix : IxR X (rM X.K gIx) := by
  intro value slice pins s σ H x y v u Q I rx ry h hs
  obtain ⟨io, S, a, b, d, S', rs, r1, r2, hg, q⟩ := h
  exact ix_seq value slice pins s σ H x y v u Q I rx ry (gIx_cases rs r1 r2 hg q) hs
/-- xs[i] read by o[i] op= e -/
def gIxL (a b : D) (S : Sto) : Option (D × Sto) := match a, b with
  | .ref n, .int i => match seqOf (.ref n) S with
    | some ds => match atI ds i with
      | some d => if 0 ≤ i then some (d, S) else none
      | none => none
    | none => none
  | _, _ => none
def gSetL (a b d : D) (S : Sto) : Option Sto := match a, b with
  | .ref n, .int k => match S[n]? with
    | some (.lst ds) => match ixN ds.length k with
      | some j => some (S.set n (.lst (ds.set j d)))
      | none => none
    | _ => none
  | _, _ => none
theorem s_list : SetD X gSetL := by
  intro pins s σ H o i v ov iv u Q I ro ri rv h
  obtain ⟨io, S, a, b, d, S', rs, r1, r2, r3, hg, q⟩ := h
  unfold gSetL at hg
  split at hg
  · split at hg
    · rename_i ds h1
      split at hg
      · rename_i j hj
        cases hg
        obtain ⟨a, vs, rfl, e1, p1, p2⟩ := rs.lst h1 r1
        obtain ⟨rs', ex⟩ := rs.write h1 e1 (RVs.set r3 j p2)
        exact set_list pins s σ H _ _ v ov iv u Q I ro ri rv ⟨a, vs, _, j, rfl, sIntII r2, p1, by rw [← p2.length]; exact hj, q io _ ex rs'⟩
      · cases hg
    · cases hg
  · cases hg
/-! slices -/
def dOpt (f : Option (Ev → Sto → Ans D)) : Ev → Sto → Ans (Option Int) := fun env S => match f with
  | none => some (.ok none, S)
  | some f => bindR (f env S) fun d S1 => match d with
    | .int i => some (.ok (some i), S1)
    | _ => none
def cutD (xs : List D) (lo hi : Option Int) : List D := (xs.drop (HT.sIx xs.length 0 lo)).take (HT.sIx xs.length xs.length hi - HT.sIx xs.length 0 lo)
def gSl (a : D) (lo hi : Option Int) (S : Sto) : Option (D × Sto) := match a with
  | .str z => if z.length ≤ sizeLine then some (.str (cutS z lo hi), S) else none
  | .tup ds => some (.tup (cutD ds lo hi), S)
  | .ref n => match seqOf (.ref n) S with
    | some ds => some (.ref S.length, S ++ [.lst (cutD ds lo hi)])
    | none => none
  | _ => none
def dSl (fa : Ev → Sto → Ans D) (fl fh : Option (Ev → Sto → Ans D)) : Ev → Sto → Ans D := fun env S => bindR (fa env S) fun a S1 => bindR (dOpt fl env S1) fun lo S2 => bindR (dOpt fh env S2) fun hi S3 => okO (gSl a lo hi S3)
end
end DL
namespace DL
open PySem PySem.Spec PyProof.Rows L2 RT RZ

/-! ### slices -/
section
variable {K : PySem.W.Frag} {mg : Str → Option Value} {W : XK} {X : Cx}
theorem cutRV {io : List Addr} {H : Hp} {ds : List D} {vs : List V} (h : RVs K io H ds vs) (lo hi : Option Int) : RVs K io H (cutD ds lo hi) (cutV vs lo hi) := by
  unfold cutD cutV
  rw [h.length]
  exact (h.drop _).take _
def rSlM (K : PySem.W.Frag) (g : D → Option Int → Option Int → Sto → Option (D × Sto)) : V → Option Int → Option Int → Hp → VK → Prop := fun x lo hi H Q =>
  ∃ io S a d S', RS K io S H ∧ RV K io H a x ∧ g a lo hi S = some (d, S') ∧ ∀ io' H' v, Ext K io H io' H' → RS K io' S' H' → RV K io' H' d v → Q v H'
theorem sl_all : SlR X (rSlM X.K gSl) := by
  intro pins s σ H x v vl vu lo hi sl Q I rx hs pl pu h
  obtain ⟨io, S, a, d, S', rs, r1, hg, q⟩ := h
  unfold gSl at hg
  split at hg
  · split at hg
    · rename_i hz
      cases hg
      exact sl_str pins s σ H x v vl vu lo hi sl Q I rx hs pl pu ⟨_, sStr r1, hz, q io H _ Ext.refl rs mStr⟩
    · cases hg
  · rename_i ds
    cases hg
    unfold RV at r1
    obtain ⟨p, vs, rfl, e1, e2⟩ := r1
    refine sl_tupA pins s σ H _ v vl vu lo hi sl Q I rx hs pl pu ⟨p, vs, rfl, e1, fun hw => ?_, fun _ t ht => ?_⟩
    · refine q io H _ Ext.refl rs ?_
      unfold RV
      refine ⟨p, vs, rfl, e1, ?_⟩
      have : cutD ds lo hi = ds := by
        unfold cutD
        rw [e2.length, hw.1, hw.2]
        simp only [List.drop_zero, Nat.sub_zero]
        exact List.take_of_length_le (by rw [e2.length]; exact Nat.le_refl _)
      rw [this]
      exact e2
    · refine q io _ _ (Ext.fresh ht) (rs.tupNew ht) ?_
      unfold RV
      exact ⟨t, _, rfl, SqT.of upd_same, RVs.mono (Ext.fresh ht) _ _ (cutRV e2 lo hi)⟩
  · split at hg
    · rename_i ds h1
      cases hg
      obtain ⟨p, vs, rfl, e1, e2, e3⟩ := rs.seq (seq_ref h1) r1
      exact sl_list pins s σ H _ v vl vu lo hi sl Q I rx hs pl pu ⟨p, vs, rfl, e2, fun t ht => q _ _ _ (Ext.new ht) (rs.lstNew ht (cutRV e3 lo hi)) (mRef rs.lastNew)⟩
    · cases hg
  · cases hg
abbrev rOI : List Addr → Hp → Option Int → Option Int → Prop := fun _ _ a b => a = b
theorem po_weak {e : Option Expr} {t t' : TO} (h : PO X e t) (w : ∀ σ H Q, t' σ H Q → t σ H Q) : PO X e t' := ⟨fun pins s σ H Q I q => h.run pins s σ H Q I (w σ H Q q)⟩
abbrev DO (X : Cx) (W : XK) (e : Option Expr) (f : Option (Ev → Sto → Ans D)) : Prop := PO X e (tG X.K X.mg W rOI (dOpt f))
theorem do_none : DO X W none none := po_weak po_none fun σ H Q ⟨io, S, env, r, S', rs, re, hf, hE⟩ => by
  cases hf
  exact hE.now rs rfl
theorem do_some {e : Expr} {f : Ev → Sto → Ans D} (h : DE X W e f) : DO X W (some e) (some f) := po_weak (po_some h) fun σ H Q ⟨io, S, env, r, S', rs, re, hf, hE⟩ =>
  tG_bind rs re hf hE fun d S1 io1 H1 v e1 rs1 re1 rv1 h1 hE1 => by
    cases d with
    | int i =>
      cases h1
      exact ⟨i, sIntII rv1, hE1.now rs1 rfl⟩
    | _ => cases h1
theorem d_slice {e : Expr} {lo hi : Option Expr} {p2 pos : Pos} {fa : Ev → Sto → Ans D} {fl fh : Option (Ev → Sto → Ans D)} (he : DE X W e fa) (hl : DO X W lo fl) (hu : DO X W hi fh) : DE X W (.Subscript e (.Slice lo hi none p2) pos) (dSl fa fl fh) :=
  pe_weak (pe_slice sl_all he hl hu) fun σ H Q ⟨io, S, env, r, S', rs, re, hf, hE⟩ =>
    tG_bind rs re hf hE fun a S1 io1 H1 v e1 rs1 re1 rv1 h1 hE1 => tG_bind rs1 re1 h1 hE1 fun b S2 io2 H2 w e2 rs2 re2 rv2 h2 hE2 => tG_bind rs2 re2 h2 hE2 fun c S3 io3 H3 u e3 rs3 re3 rv3 h3 hE3 => by
      cases rv2
      cases rv3
      obtain ⟨d, h4, rfl⟩ := okO_some h3
      exact ⟨io3, S3, a, d, S', rs3, RV.mono (e2.trans e3) _ _ rv1, h4, hE3⟩
end

/-! ### calls of built-ins -/
def cInt : List D → Sto → Option (D × Sto)
  | [.int i], S => some (.int i, S)
  | [.bl k], S => some (.int (if k then 1 else 0), S)
  | _, _ => none
def cAbs : List D → Sto → Option (D × Sto)
  | [.int i], S => some (.int (if i < 0 then -i else i), S)
  | _, _ => none
def cMax2 : List D → Sto → Option (D × Sto)
  | [.int i, .int j], S => some (.int (if j > i then j else i), S)
  | _, _ => none
def cMin2 : List D → Sto → Option (D × Sto)
  | [.int i, .int j], S => some (.int (if j < i then j else i), S)
  | _, _ => none
def cLen : List D → Sto → Option (D × Sto)
  | [.str x], S => if x.length ≤ sizeLine then some (.int x.length, S) else none
  | [d], S => match seqOf d S with
    | some ds => some (.int ds.length, S)
    | none => none
  | _, _ => none
def cList : List D → Sto → Option (D × Sto)
  | [d], S => match seqOf d S with
    | some ds => some (.ref S.length, S ++ [.lst ds])
    | none => none
  | _, _ => none
def cTuple : List D → Sto → Option (D × Sto)
  | [d], S => match seqOf d S with
    | some ds => some (.tup ds, S)
    | none => none
  | _, _ => none
def cStr : List D → Sto → Option (D × Sto)
  | [.int i], S => if i.natAbs.log2 < 1920 then some (.str (Str.ofString (toString i)), S) else none
  | [.str x], S => some (.str x, S)
  | _, _ => none
def intsOf : List D → Option (List Int)
  | [] => some []
  | .int i :: ds => match intsOf ds with
    | some is => some (i :: is)
    | none => none
  | _ => none
def strsOf : List D → Option (List Str)
  | [] => some []
  | .str i :: ds => match strsOf ds with
    | some is => some (i :: is)
    | none => none
  | _ => none
def blsOf : List D → Option (List Bool)
  | [] => some []
  | .bl i :: ds => match blsOf ds with
    | some is => some (i :: is)
    | none => none
  | _ => none
def cSum : List D → Sto → Option (D × Sto)
  | [.ref n], S => match seqOf (.ref n) S with
    | some ds => match intsOf ds with
      | some is => some (.int is.sum, S)
      | none => none
    | none => none
  | _, _ => none
def cAny : List D → Sto → Option (D × Sto)
  | [.ref n], S => match seqOf (.ref n) S with
    | some ds => match blsOf ds with
      | some is => some (.bl (is.any id), S)
      | none => none
    | none => none
  | _, _ => none
def cAll : List D → Sto → Option (D × Sto)
  | [.ref n], S => match seqOf (.ref n) S with
    | some ds => match blsOf ds with
      | some is => some (.bl (is.all id), S)
      | none => none
    | none => none
  | _, _ => none
/-- texts in order -/
def leS (a b : Str) : Bool := !decide (b.cps.toList < a.cps.toList)
def sortS (xs : List Str) : List Str := xs.mergeSort leS
def cSortedS : List D → Sto → Option (D × Sto)
  | [.ref n], S => match seqOf (.ref n) S with
    | some ds => match strsOf ds with
      | some is => if is.length < 64 then some (.ref S.length, S ++ [.lst ((sortS is).map D.str)]) else none
      | none => none
    | none => none
  | _, _ => none
theorem ltCps_eq : ∀ x y : List Nat, ltCps x y = decide (x < y)
  | [], [] => by simp [ltCps]
  | [], _ :: _ => by simp [ltCps]
  | _ :: _, [] => by simp [ltCps]
  | a :: r, b :: t => by
    unfold ltCps
    rw [ltCps_eq r t, Bool.eq_iff_iff]
    simp [List.cons_lt_cons_iff]
theorem leS_iff {a b : Str} : leS a b = true ↔ a.cps.toList ≤ b.cps.toList := by
  unfold leS
  rw [Bool.not_eq_true', decide_eq_false_iff_not]
  rfl
theorem leS_trans (a b c : Str) (h : leS a b = true) (h' : leS b c = true) : leS a c = true := leS_iff.mpr (List.le_trans (leS_iff.mp h) (leS_iff.mp h'))
theorem leS_total (a b : Str) : (leS a b || leS b a) = true := by
  rcases List.le_total a.cps.toList b.cps.toList with h | h
  · rw [leS_iff.mpr h]
    rfl
  · rw [leS_iff.mpr h, Bool.or_true]
theorem leS_antisymm {a b : Str} (h : leS a b = true) (h' : leS b a = true) : a = b := by
  have e : a.cps.toList = b.cps.toList := List.le_antisymm (leS_iff.mp h) (leS_iff.mp h')
  cases a
  cases b
  simp only at e
  rw [Array.toList_inj] at e
  rw [e]
theorem risingS_pw : ∀ (l : List Str) (p : Str), risingS p l = true → (p :: l).Pairwise fun a b => leS a b = true
  | [], p, _ => List.pairwise_singleton _ _
  | x :: r, p, h => by
    unfold risingS at h
    simp only [Bool.and_eq_true, Bool.not_eq_true'] at h
    have ih := risingS_pw r x h.2
    have hp : leS p x = true := by
      unfold leS
      rw [← ltCps_eq, h.1]
      rfl
    refine List.Pairwise.cons (fun y hy => ?_) ih
    rcases List.mem_cons.mp hy with rfl | hy
    · exact hp
    · exact leS_trans _ _ _ hp ((List.pairwise_cons.mp ih).1 y hy)
theorem sortedS_pw (l : List Str) (h : sortedS l = true) : l.Pairwise fun a b => leS a b = true := by
  cases l with
  | nil => exact List.Pairwise.nil
  | cons x r => exact risingS_pw r x h
theorem sortS_unique {xs ys : List Str} (p : ys.Perm xs) (h : sortedS ys = true) : ys = sortS xs :=
  List.Perm.eq_of_pairwise (le := fun a b => leS a b = true) (fun a b _ _ h1 h2 => leS_antisymm h1 h2) (sortedS_pw ys h) (List.pairwise_mergeSort leS_trans leS_total xs) (p.trans (List.mergeSort_perm xs leS).symm)
section
variable {K : PySem.W.Frag} {io : List Addr} {H : Hp}
theorem ints_V : ∀ {ds : List D} {is : List Int} {vs : List V}, intsOf ds = some is → RVs K io H ds vs → vs = is.map V.int
  | [], is, vs, h, r => by simp only [RVs] at r; cases h; rw [r]; rfl
  | .int i :: ds, is, vs, h, r => by
    simp only [RVs] at r
    obtain ⟨v, w, rfl, r1, r2⟩ := r
    unfold intsOf at h
    split at h
    · rename_i js hj
      cases h
      rw [sIntII r1, ints_V hj r2]
      rfl
    · cases h
  | .non :: _, _, _, h, _ => by cases h
  | .bl _ :: _, _, _, h, _ => by cases h
  | .str _ :: _, _, _, h, _ => by cases h
  | .tup _ :: _, _, _, h, _ => by cases h
  | .ref _ :: _, _, _, h, _ => by cases h
theorem strs_V : ∀ {ds : List D} {is : List Str} {vs : List V}, strsOf ds = some is → RVs K io H ds vs → vs = is.map V.str
  | [], is, vs, h, r => by simp only [RVs] at r; cases h; rw [r]; rfl
  | .str i :: ds, is, vs, h, r => by
    simp only [RVs] at r
    obtain ⟨v, w, rfl, r1, r2⟩ := r
    unfold strsOf at h
    split at h
    · rename_i js hj
      cases h
      rw [sStr r1, strs_V hj r2]
      rfl
    · cases h
  | .non :: _, _, _, h, _ => by cases h
  | .bl _ :: _, _, _, h, _ => by cases h
  | .int _ :: _, _, _, h, _ => by cases h
  | .tup _ :: _, _, _, h, _ => by cases h
  | .ref _ :: _, _, _, h, _ => by cases h
theorem bls_V : ∀ {ds : List D} {is : List Bool} {vs : List V}, blsOf ds = some is → RVs K io H ds vs → vs = is.map V.bl
  | [], is, vs, h, r => by simp only [RVs] at r; cases h; rw [r]; rfl
  | .bl i :: ds, is, vs, h, r => by
    simp only [RVs] at r
    obtain ⟨v, w, rfl, r1, r2⟩ := r
    unfold blsOf at h
    split at h
    · rename_i js hj
      cases h
      rw [sBl r1, bls_V hj r2]
      rfl
    · cases h
  | .non :: _, _, _, h, _ => by cases h
  | .str _ :: _, _, _, h, _ => by cases h
  | .int _ :: _, _, _, h, _ => by cases h
  | .tup _ :: _, _, _, h, _ => by cases h
  | .ref _ :: _, _, _, h, _ => by cases h
theorem strsRV : ∀ (xs : List Str), RVs K io H (xs.map D.str) (xs.map V.str)
  | [] => RVs.nil
  | x :: xs => RVs.cons mStr (strsRV xs)
theorem rvs1 {d : D} {vs : List V} (h : RVs K io H [d] vs) : ∃ v, vs = [v] ∧ RV K io H d v := by
  simp only [RVs] at h
  obtain ⟨v, r, rfl, h1, rfl⟩ := h
  exact ⟨v, rfl, h1⟩
end
section
variable {X : Cx}
theorem c_int : CallD X (.type "int") cInt := by
  intro pins s σ H xs us Q I r h
  obtain ⟨io, S, ds, d, S', rs, rv, hg, q⟩ := h
  unfold cInt at hg
  split at hg
  · cases hg
    obtain ⟨v, rfl, e⟩ := rvs1 rv
    exact call_int1 pins s σ H _ us Q I r (.inl ⟨_, by rw [sIntII e], q io H _ Ext.refl rs mInt⟩)
  · cases hg
    obtain ⟨v, rfl, e⟩ := rvs1 rv
    exact call_int1 pins s σ H _ us Q I r (.inr ⟨_, by rw [sBl e], q io H _ Ext.refl rs mInt⟩)
  · cases hg
theorem c_abs : CallD X (.builtin "abs") cAbs := by
  intro pins s σ H xs us Q I r h
  obtain ⟨io, S, ds, d, S', rs, rv, hg, q⟩ := h
  unfold cAbs at hg
  split at hg
  · cases hg
    obtain ⟨v, rfl, e⟩ := rvs1 rv
    exact call_abs pins s σ H _ us Q I r ⟨_, by rw [sIntII e], q io H _ Ext.refl rs mInt⟩
  · cases hg
theorem c_max2 (hc : X.calm = true) : CallD X (.builtin "max") cMax2 := by
  intro pins s σ H xs us Q I r h
  obtain ⟨io, S, ds, d, S', rs, rv, hg, q⟩ := h
  unfold cMax2 at hg
  split at hg
  · cases hg
    exact call_max2 hc pins s σ H _ us Q I r ⟨_, _, RVs.int2 rv, q io H _ Ext.refl rs mInt⟩
  · cases hg
theorem c_min2 (hc : X.calm = true) : CallD X (.builtin "min") cMin2 := by
  intro pins s σ H xs us Q I r h
  obtain ⟨io, S, ds, d, S', rs, rv, hg, q⟩ := h
  unfold cMin2 at hg
  split at hg
  · cases hg
    exact call_min2 hc pins s σ H _ us Q I r ⟨_, _, RVs.int2 rv, q io H _ Ext.refl rs mInt⟩
  · cases hg
theorem c_len : CallD X (.builtin "len") cLen := by
  intro pins s σ H xs us Q I r h
  obtain ⟨io, S, ds, d, S', rs, rv, hg, q⟩ := h
  unfold cLen at hg
  split at hg
  · split at hg
    · rename_i hz
      cases hg
      obtain ⟨v, rfl, e⟩ := rvs1 rv
      exact call_len_str pins s σ H _ us Q I r ⟨_, by rw [sStr e], hz, q io H _ Ext.refl rs mInt⟩
    · cases hg
  · split at hg
    · rename_i es hs
      cases hg
      obtain ⟨v, rfl, e⟩ := rvs1 rv
      obtain ⟨p, vs, rfl, e2, e3⟩ := RV.seq rs e hs
      exact call_len_seq pins s σ H _ us Q I r ⟨p, vs, rfl, e2, by rw [← e3.length]; exact q io H _ Ext.refl rs mInt⟩
    · cases hg
  · cases hg
theorem c_list : CallD X (.type "list") cList := by
  intro pins s σ H xs us Q I r h
  obtain ⟨io, S, ds, d, S', rs, rv, hg, q⟩ := h
  unfold cList at hg
  split at hg
  · split at hg
    · rename_i es hs
      cases hg
      obtain ⟨v, rfl, e⟩ := rvs1 rv
      obtain ⟨p, vs, rfl, e2, e3⟩ := RV.seq rs e hs
      exact call_list_of pins s σ H _ us Q I r ⟨p, vs, rfl, e2, fun t ht => q _ _ _ (Ext.new ht) (rs.lstNew ht e3) (mRef rs.lastNew)⟩
    · cases hg
  · cases hg
theorem c_tuple : CallD X (.type "tuple") cTuple := by
  intro pins s σ H xs us Q I r h
  obtain ⟨io, S, ds, d, S', rs, rv, hg, q⟩ := h
  unfold cTuple at hg
  split at hg
  · split at hg
    · rename_i es hs
      cases hg
      obtain ⟨v, rfl, e⟩ := rvs1 rv
      obtain ⟨p, vs, rfl, e2, e3⟩ := RV.seq rs e hs
      refine call_tuple_of pins s σ H _ us Q I r ⟨p, vs, rfl, ?_⟩
      rcases e2 with e2 | e2
      · refine .inl ⟨e2, fun t ht => q io _ _ (Ext.fresh ht) (rs.tupNew ht) ?_⟩
        unfold RV
        exact ⟨t, _, rfl, SqT.of upd_same, RVs.mono (Ext.fresh ht) _ _ e3⟩
      · refine .inr ⟨e2, q io H _ Ext.refl rs ?_⟩
        unfold RV
        exact ⟨p, vs, rfl, e2, e3⟩
    · cases hg
  · cases hg
theorem c_str : CallD X (.type "str") cStr := by
  intro pins s σ H xs us Q I r h
  obtain ⟨io, S, ds, d, S', rs, rv, hg, q⟩ := h
  unfold cStr at hg
  split at hg
  · split at hg
    · rename_i hz
      cases hg
      obtain ⟨v, rfl, e⟩ := rvs1 rv
      exact call_str_int pins s σ H _ us Q I r ⟨_, by rw [sIntII e], hz, q io H _ Ext.refl rs mStr⟩
    · cases hg
  · cases hg
    obtain ⟨v, rfl, e⟩ := rvs1 rv
    exact SkE.call_str_str pins s σ H _ us Q I r ⟨_, by rw [sStr e], q io H _ Ext.refl rs mStr⟩
  · cases hg
theorem c_sum (hc : X.calm = true) : CallD X (.builtin "sum") cSum := by
  intro pins s σ H xs us Q I r h
  obtain ⟨io, S, ds, d, S', rs, rv, hg, q⟩ := h
  unfold cSum at hg
  split at hg
  · split at hg
    · rename_i es hs
      split at hg
      · rename_i is hi
        cases hg
        obtain ⟨v, rfl, e⟩ := rvs1 rv
        obtain ⟨p, vs, rfl, _, e2, e3⟩ := rs.seq (seq_ref hs) e
        have := ints_V hi e3
        subst this
        exact cr_sum hc pins s σ H _ us Q I r ⟨p, is, rfl, e2, q io H _ Ext.refl rs mInt⟩
      · cases hg
    · cases hg
  · cases hg
theorem c_any (hc : X.calm = true) : CallD X (.builtin "any") cAny := by
  intro pins s σ H xs us Q I r h
  obtain ⟨io, S, ds, d, S', rs, rv, hg, q⟩ := h
  unfold cAny at hg
  split at hg
  · split at hg
    · rename_i es hs
      split at hg
      · rename_i is hi
        cases hg
        obtain ⟨v, rfl, e⟩ := rvs1 rv
        obtain ⟨p, vs, rfl, _, e2, e3⟩ := rs.seq (seq_ref hs) e
        have := bls_V hi e3
        subst this
        exact cr_any hc pins s σ H _ us Q I r ⟨p, is, rfl, e2, q io H _ Ext.refl rs mBl⟩
      · cases hg
    · cases hg
  · cases hg
theorem c_all (hc : X.calm = true) : CallD X (.builtin "all") cAll := by
  intro pins s σ H xs us Q I r h
  obtain ⟨io, S, ds, d, S', rs, rv, hg, q⟩ := h
  unfold cAll at hg
  split at hg
  · split at hg
    · rename_i es hs
      split at hg
      · rename_i is hi
        cases hg
        obtain ⟨v, rfl, e⟩ := rvs1 rv
        obtain ⟨p, vs, rfl, _, e2, e3⟩ := rs.seq (seq_ref hs) e
        have := bls_V hi e3
        subst this
        exact cr_all hc pins s σ H _ us Q I r ⟨p, is, rfl, e2, q io H _ Ext.refl rs mBl⟩
      · cases hg
    · cases hg
  · cases hg
theorem c_sortedS : CallD X (.builtin "sorted") cSortedS := by
  intro pins s σ H xs us Q I r h
  obtain ⟨io, S, ds, d, S', rs, rv, hg, q⟩ := h
  unfold cSortedS at hg
  split at hg
  · split at hg
    · rename_i es hs
      split at hg
      · rename_i is hi
        split at hg
        · rename_i hz
          cases hg
          obtain ⟨v, rfl, e⟩ := rvs1 rv
          obtain ⟨p, vs, rfl, _, e2, e3⟩ := rs.seq (seq_ref hs) e
          have := strs_V hi e3
          subst this
          refine cr_sortedS pins s σ H _ us Q I r ⟨p, is, rfl, e2, hz, fun ys t hp hy ht => ?_⟩
          have := sortS_unique hp hy
          subst this
          exact q _ _ _ (Ext.new ht) (rs.lstNew ht (strsRV _)) (mRef rs.lastNew)
        · cases hg
      · cases hg
    · cases hg
  · cases hg

/-! isinstance with a built-in type -/
def tyN (d : D) (S : Sto) : Option String := match d with
  | .non => some "NoneType"
  | .bl _ => some "bool"
  | .int _ => some "int"
  | .str _ => some "str"
  | .tup _ => some "tuple"
  | .ref n => match S[n]? with
    | some (.lst _) => some "list"
    | some (.rol _) => some "list"
    | none => none
def dIsi (T : String) (fa : Ev → Sto → Ans D) : Ev → Sto → Ans D := fun env S => bindR (fa env S) fun a S1 => match tyN a S1 with
  | some n => match kitB n T with
    | some b => some (.ok (.bl b), S1)
    | none => none
  | none => none
theorem ty_X {K : PySem.W.Frag} {io : List Addr} {H : Hp} {S : Sto} {d : D} {v : V} {n : String} (rs : RS K io S H) (r : RV K io H d v) (h : tyN d S = some n) : TyX K H v (.type n) := by
  cases d with
  | non => cases h; rw [sNon r]; exact .base .non
  | bl b => cases h; rw [sBl r]; exact .base (.bl _)
  | int b => cases h; rw [sIntII r]; exact .base (.int _)
  | str b => cases h; rw [sStr r]; exact .base (.str _)
  | tup ds =>
    cases h
    unfold RV at r
    obtain ⟨a, vs, rfl, e, _⟩ := r
    rcases e with (e | ⟨o, e⟩) | ⟨o, its, m, e1, e2, _⟩
    · exact .base (.tup e)
    · exact .fTuple e
    · exact .kTuple e1 e2
  | ref m =>
    unfold RV at r
    obtain ⟨a, e1, rfl⟩ := r
    simp only [tyN] at h
    split at h
    · rename_i ds hd
      cases h
      obtain ⟨vs, q1, _⟩ := rs.obj _ _ _ hd e1
      exact .base (.lst q1)
    · rename_i ds hd
      cases h
      obtain ⟨vs, q1, _⟩ := rs.obj _ _ _ hd e1
      rcases q1 with ⟨o, q1⟩ | ⟨o, its, m, k1, k2, _⟩
      · exact .base (.frz q1)
      · exact .kList k1 k2
    · cases h
theorem d_isi {W : XK} {e : Expr} {T : String} {TN : Str} {p p2 pos : Pos} {fa : Ev → Sto → Ans D} (hg : Gl X "isinstance") (hm : X.mg "isinstance" = none) (hgT : Gl X TN) (hmT : X.mg TN = none) (hT : bootBuiltins TN = some (.type T)) (he : DE X W e fa)
    (hn : TN ≠ "__name__" := by decide) (hdb : (TN == ("__debug__" : Str)) = false := by decide)
    (hs : starEach [e, .Name TN p2] X.env = (false, eval e X.env) :: starEach [.Name TN p2] X.env := by rfl) (hs2 : starEach [.Name TN p2] X.env = (false, eval (.Name TN p2) X.env) :: starEach [] X.env := by rfl) (hpl : (backTo pos (starEach [.Name TN p2] X.env)).any (·.1) = false := by rfl) :
    DE X W (.Call (.Name "isinstance" p) [e, .Name TN p2] [] pos) (dIsi T fa) :=
  pe_weak (pe_callB call_isi hg hm (by decide +kernel) (pa_cons he (pa_cons (pe_bltn (v := .ty T) hgT hmT hT rfl hn hdb) pa_nil hs2) hs) (by decide) (by decide) hs hpl) fun σ H Q ⟨io, S, env, r, S', rs, re, hf, hE⟩ =>
    tG_bind rs re hf hE fun a S1 io1 H1 v e1 rs1 re1 rv1 h1 hE1 => by
      split at h1
      · rename_i n hn
        split at h1
        · rename_i b hb
          cases h1
          exact ⟨v, .ty T, .type n, .type T, b, rfl, .ty T, ty_X rs1 rv1 hn, kit_ty hb, hE1.now rs1 mBl⟩
        · cases h1
      · cases h1

/-! ### methods of built-in types -/
def tyM (T : String) (d : D) (S : Sto) : Bool := match d with
  | .str _ => T == "str"
  | .int _ => T == "int"
  | .ref n => T == "list" && (seqOf (.ref n) S).isSome
  | _ => false
theorem tyM_V {K : PySem.W.Frag} {io : List Addr} {H : Hp} {S : Sto} {d : D} {v : V} {T : String} (rs : RS K io S H) (r : RV K io H d v) (h : tyM T d S = true) : tyV K T v H := by
  cases d with
  | str x => rw [sStr r]; exact beq_iff_eq.mp h
  | int x => rw [sIntII r]; exact beq_iff_eq.mp h
  | ref n =>
    simp only [tyM, Bool.and_eq_true] at h
    obtain ⟨h1, h2⟩ := h
    obtain ⟨ds, hs⟩ := Option.isSome_iff_exists.mp h2
    obtain ⟨a, vs, rfl, _, e2, _⟩ := rs.seq (seq_ref hs) r
    exact .inl ⟨beq_iff_eq.mp h1, vs, e2⟩
  | _ => cases h
def dM (T : String) (g : D → List D → Sto → Option (D × Sto)) (fo : Ev → Sto → Ans D) (fs : Ev → Sto → Ans (List D)) : Ev → Sto → Ans D := fun env S =>
  bindR (fo env S) fun a S1 => if tyM T a S1 = true then bindR (fs env S1) fun ds S2 => okO (g a ds S2) else none
section
variable {o e : Expr} {es : List Expr} {name : Str} {apos cpos : Pos} {T id : String} {W : XK} {fo : Ev → Sto → Ans D} {fs : Ev → Sto → Ans (List D)} {g : D → List D → Sto → Option (D × Sto)}
theorem d_m0 (pa : PlainAttrs T) (slot : Slot T name id) (hty : typeOf (.builtin id) = pure (.type "method_descriptor")) (hm : MtD X id g) (ho : DE X W o fo)
    (hbase : attributeBase o name X.env (eval o X.env) = eval o X.env := by rfl) (hline : (apos.endLine == cpos.line) = true := by rfl) : DE X W (.Call (.Attribute o name apos) [] [] cpos) (dM T g fo dNil) :=
  pe_weak (pe_bm0 pa slot hty hm ho hbase hline) fun σ H Q ⟨io, S, env, r, S', rs, re, hf, hE⟩ => tG_bind rs re hf hE fun a S1 io1 H1 v e1 rs1 re1 rv1 h1 hE1 => by
    split at h1
    · rename_i ht
      obtain ⟨d, h2, rfl⟩ := okO_some (show okO (g a [] S1) = _ from h1)
      exact ⟨tyM_V rs1 rv1 ht, io1, S1, a, [], d, S', rs1, rv1, RVs.nil, h2, hE1⟩
    · cases h1
theorem d_m (pa : PlainAttrs T) (slot : Slot T name id) (hty : typeOf (.builtin id) = pure (.type "method_descriptor")) (hm : MtD X id g) (ho : DE X W o fo) (ha : DA X W (e :: es) fs)
    (hbase : attributeBase o name X.env (eval o X.env) = eval o X.env := by rfl)
    (hfew : ((backTo cpos (starEach (e :: es) X.env)).all (fun x => !x.1) && (backToKw cpos (keywordEach [] X.env)).all (fun x => x.1.isSome)
      && decide ((e :: es).length + ([] : List Keyword).length + (if ([] : List Keyword).isEmpty then 0 else 1) < 30)) = true := by rfl)
    (hline : (apos.endLine == cpos.line) = true := by rfl) (hs : starEach (e :: es) X.env = (false, eval e X.env) :: starEach es X.env := by rfl) (hplain : (backTo cpos (starEach es X.env)).any (·.1) = false := by rfl) :
    DE X W (.Call (.Attribute o name apos) (e :: es) [] cpos) (dM T g fo fs) :=
  pe_weak (pe_bm pa slot hty hm ho ha hbase hfew hline hs hplain) fun σ H Q ⟨io, S, env, r, S', rs, re, hf, hE⟩ => tG_bind rs re hf hE fun a S1 io1 H1 v e1 rs1 re1 rv1 h1 hE1 => by
    split at h1
    · rename_i ht
      refine ⟨tyM_V rs1 rv1 ht, tG_bind rs1 re1 h1 hE1 fun ds S2 io2 H2 w e2 rs2 re2 rv2 h2 hE2 => ?_⟩
      obtain ⟨d, h2, rfl⟩ := okO_some h2
      exact ⟨io2, S2, a, ds, d, S', rs2, RV.mono e2 _ _ rv1, rv2, by assumption, hE2⟩
    · cases h1
end
def mAppend : D → List D → Sto → Option (D × Sto)
  | .ref n, [d], S => match S[n]? with
    | some (.lst ds) => if ds.length < sizeLine then some (.non, S.set n (.lst (ds ++ [d]))) else none
    | _ => none
  | _, _, _ => none
theorem m_append : MtD X "list.append" mAppend := by
  intro pins s σ H x xs v us Q I rx r h
  obtain ⟨io, S, a, ds, d, S', rs, r1, r2, hg, q⟩ := h
  unfold mAppend at hg
  split at hg
  · split at hg
    · rename_i es hs
      split at hg
      · rename_i hz
        cases hg
        obtain ⟨p, vs, rfl, e1, e2, e3⟩ := rs.lst hs r1
        obtain ⟨w, rfl, r3⟩ := rvs1 r2
        obtain ⟨rs', ex⟩ := rs.write hs e1 (e3.append (RVs.one r3))
        exact mt_append pins s σ H _ _ v us Q I rx r ⟨p, vs, w, rfl, rfl, e2, by rw [← e3.length]; exact hz, q io _ _ ex rs' mNon⟩
      · cases hg
    · cases hg
  · cases hg
def mPop : D → List D → Sto → Option (D × Sto)
  | .ref n, [], S => match S[n]? with
    | some (.lst ds) => match ds[ds.length - 1]? with
      | some d => some (d, S.set n (.lst ds.dropLast))
      | none => none
    | _ => none
  | _, _, _ => none
theorem RVs.dropLast {K : PySem.W.Frag} {io : List Addr} {H : Hp} {ds : List D} {vs : List V} (h : RVs K io H ds vs) : RVs K io H ds.dropLast vs.dropLast := by
  rw [List.dropLast_eq_take, List.dropLast_eq_take, h.length]
  exact h.take _
theorem m_pop : MtD X "list.pop" mPop := by
  intro pins s σ H x xs v us Q I rx r h
  obtain ⟨io, S, a, ds, d, S', rs, r1, r2, hg, q⟩ := h
  unfold mPop at hg
  split at hg
  · split at hg
    · rename_i es hs
      split at hg
      · rename_i d hd
        cases hg
        obtain ⟨p, vs, rfl, e1, e2, e3⟩ := rs.lst hs r1
        have : xs = [] := by simpa [RVs] using r2
        subst this
        obtain ⟨w, w1, w2⟩ := e3.get hd
        obtain ⟨rs', ex⟩ := rs.write hs e1 e3.dropLast
        exact mt_pop pins s σ H _ _ v us Q I rx r ⟨p, vs, w, rfl, rfl, e2, by rw [← e3.length]; exact w1, q io _ _ ex rs' (RV.mono ex _ _ w2)⟩
      · cases hg
    · cases hg
  · cases hg
end
end DL
namespace DL
open PySem PySem.Spec PyProof.Rows L2 RT RZ

/-! ### what lies behind in the store is dropped -/
mutual
def D.clB (n : Nat) : D → Bool
  | .ref m => decide (m < n)
  | .tup l => D.clBs n l
  | _ => true
def D.clBs (n : Nat) : List D → Bool
  | [] => true
  | d :: ds => D.clB n d && D.clBs n ds
end
def O.items : O → List D
  | .lst l => l
  | .rol l => l
def O.clB (n : Nat) (o : O) : Bool := D.clBs n o.items
def ClS (S : Sto) : Prop := ∀ o ∈ S, o.clB S.length = true
def R.clB (n : Nat) : R D → Bool
  | .ok d => d.clB n
  | .ex e => match e.args with
    | none => true
    | some fs => D.clBs n (fs.map (·.2))
section
variable {K : PySem.W.Frag} {mg : Str → Option Value} {io io' : List Addr} {H H' : Hp} {S S' T : Sto}
mutual
theorem RV.cl : ∀ (d : D) (v : V), RV K io H d v → d.clB io.length = true
  | .non, _, _ => rfl
  | .bl _, _, _ => rfl
  | .int _, _, _ => rfl
  | .str _, _, _ => rfl
  | .tup l, v, h => by
    unfold RV at h
    obtain ⟨a, vs, _, _, h⟩ := h
    exact RVs.cl l vs h
  | .ref m, v, h => by
    unfold RV at h
    obtain ⟨a, h, _⟩ := h
    exact decide_eq_true (List.getElem?_eq_some_iff.mp h).1
theorem RVs.cl : ∀ (ds : List D) (vs : List V), RVs K io H ds vs → D.clBs io.length ds = true
  | [], _, _ => rfl
  | d :: ds, _, h => by
    unfold RVs at h
    obtain ⟨v, r, _, h1, h2⟩ := h
    unfold D.clBs
    rw [RV.cl d v h1, RVs.cl ds r h2]
    rfl
end
mutual
theorem RV.cut {n : Nat} : ∀ (d : D) (v : V), RV K io H d v → d.clB n = true → RV K (io.take n) H d v
  | .non, _, h, _ => by simpa [RV] using h
  | .bl _, _, h, _ => by simpa [RV] using h
  | .int _, _, h, _ => by simpa [RV] using h
  | .str _, _, h, _ => by simpa [RV] using h
  | .tup l, v, h, c => by
    unfold RV at h ⊢
    obtain ⟨a, vs, e1, e2, h⟩ := h
    exact ⟨a, vs, e1, e2, RVs.cut l vs h c⟩
  | .ref m, v, h, c => by
    unfold RV at h ⊢
    obtain ⟨a, h, e⟩ := h
    have hm : m < n := of_decide_eq_true c
    exact ⟨a, by rw [List.getElem?_take_of_lt hm]; exact h, e⟩
theorem RVs.cut {n : Nat} : ∀ (ds : List D) (vs : List V), RVs K io H ds vs → D.clBs n ds = true → RVs K (io.take n) H ds vs
  | [], _, h, _ => by simpa [RVs] using h
  | d :: ds, _, h, c => by
    unfold RVs at h ⊢
    unfold D.clBs at c
    simp only [Bool.and_eq_true] at c
    obtain ⟨v, r, e, h1, h2⟩ := h
    exact ⟨v, r, e, RV.cut d v h1 c.1, RVs.cut ds r h2 c.2⟩
end
theorem RS.cls (h : RS K io S H) : ClS S := fun o ho => by
  obtain ⟨n, hn, e⟩ := List.getElem_of_mem ho
  have e1 : S[n]? = some o := by rw [List.getElem?_eq_getElem hn, e]
  have hn' : n < io.length := by rw [h.len]; exact hn
  have q := h.obj n o io[n] e1 (List.getElem?_eq_getElem hn')
  cases o with
  | lst ds =>
    obtain ⟨vs, _, q⟩ := q
    have := RVs.cl ds vs q
    rw [h.len] at this
    exact this
  | rol ds =>
    obtain ⟨vs, _, q⟩ := q
    have := RVs.cl ds vs q
    rw [h.len] at this
    exact this
theorem RS.cut (h : RS K io (S ++ T) H) (c : ClS S) : RS K (io.take S.length) S H := by
  have hl : S.length ≤ io.length := by rw [h.len, List.length_append]; omega
  have g : ∀ {n : Nat} {o : O}, S[n]? = some o → (S ++ T)[n]? = some o := fun {n o} e => by
    rw [List.getElem?_append_left (List.getElem?_eq_some_iff.mp e).1]
    exact e
  have gi : ∀ {n : Nat} {a : Addr}, (io.take S.length)[n]? = some a → io[n]? = some a := fun {n a} e => by
    have hn : n < S.length := by
      have := (List.getElem?_eq_some_iff.mp e).1
      rw [List.length_take] at this
      omega
    rw [List.getElem?_take_of_lt hn] at e
    exact e
  refine ⟨by rw [List.length_take]; omega, fun n o a e1 e2 => ?_, fun m n a o u e1 e2 e3 e4 => h.inj m n a o u (gi e1) (gi e2) (g e3) (g e4)⟩
  have q := h.obj n o a (g e1) (gi e2)
  have cl := c o (List.mem_of_getElem? e1)
  cases o with
  | lst ds =>
    obtain ⟨vs, q1, q⟩ := q
    exact ⟨vs, q1, RVs.cut ds vs q cl⟩
  | rol ds =>
    obtain ⟨vs, q1, q⟩ := q
    exact ⟨vs, q1, RVs.cut ds vs q cl⟩
theorem Ext.cut {n : Nat} (e : Ext K io H io' H') (h : io.length ≤ n) : Ext K io H (io'.take n) H' := by
  obtain ⟨⟨t, rfl⟩, e⟩ := e
  exact ⟨⟨t.take (n - io.length), by rw [List.take_append, List.take_of_length_le h]⟩, e⟩
end
/-- c says what m does, but for what lies behind -/
def Cleans (m c : Mir) : Prop := ∀ ds S r S', c ds S = some (r, S') → m ds S = some (r, S') ∨ ∃ T, m ds S = some (r, S' ++ T) ∧ S.length ≤ S'.length ∧ ClS S' ∧ r.clB S'.length = true
open Classical in
/-- what a call leaves behind is dropped where nothing hangs on it -/
noncomputable def gc (m : Mir) : Mir := fun ds S => match m ds S with
  | some (r, S') => if ClS (S'.take S.length) ∧ r.clB S.length = true ∧ S.length ≤ S'.length then some (r, S'.take S.length) else some (r, S')
  | none => none
theorem gc_ok (m : Mir) : Cleans m (gc m) := fun ds S r S' e => by
  unfold gc at e
  cases h : m ds S with
  | none => rw [h] at e; cases e
  | some p =>
    obtain ⟨r1, S1⟩ := p
    rw [h] at e
    simp only at e
    split at e
    · rename_i hc
      cases e
      have hl : (S1.take S.length).length = S.length := by rw [List.length_take]; omega
      exact .inr ⟨S1.drop S.length, by rw [List.take_append_drop], by omega, hc.1, by rw [hl]; exact hc.2.1⟩
    · cases e
      exact .inl rfl
theorem gc_eq {m : Mir} {ds : List D} {S S' T : Sto} {r : R D} (h : m ds S = some (r, S' ++ T)) (hl : S'.length = S.length) (hc : ClS S') (hr : r.clB S.length = true) : gc m ds S = some (r, S') := by
  unfold gc
  rw [h]
  have e : (S' ++ T).take S.length = S' := by rw [← hl]; exact List.take_left' rfl
  simp only
  rw [if_pos ⟨by rw [e]; exact hc, hr, by rw [List.length_append]; omega⟩, e]
theorem Cleans.imp {K : PySem.W.Frag} {mg : Str → Option Value} {m c : Mir} (h : Cleans m c) (vs : List V) (H : Hp) (Q : VK) (E : XK) (q : spM K mg c vs H Q E) : spM K mg m vs H Q E := by
  obtain ⟨io, S, ds, r, S', rs, rv, hc, hE⟩ := q
  rcases h ds S r S' hc with hm | ⟨T, hm, hl, cS, cr⟩
  · exact ⟨io, S, ds, r, S', rs, rv, hm, hE⟩
  refine ⟨io, S, ds, r, S' ++ T, rs, rv, hm, ?_⟩
  have hio : io.length ≤ S'.length := by rw [rs.len]; exact hl
  cases r with
  | ok d => exact fun io' H' v ex rs' rv' => hE _ H' v (ex.cut hio) (rs'.cut cS) (RV.cut d v rv' cr)
  | ex e =>
    refine fun io' H' c dd ex rs' rx => hE _ H' c dd (ex.cut hio) (rs'.cut cS) ⟨rx.1, ?_⟩
    have rx2 := rx.2
    unfold R.clB at cr
    split at rx2
    · exact rx2
    · rename_i fs ha
      simp only [ha] at cr
      obtain ⟨d, ws, e1, e2, e3, e4⟩ := rx2
      exact ⟨d, ws, e1, e2, e3, RVs.cut _ _ e4 cr⟩
/-- the law's own promise -/
def spLaw (K : PySem.W.Frag) : Sp := fun vs H Q _ => ∃ (a : Addr) (ns : List Int), vs = [.ref a] ∧ ns.length ≤ 63 ∧ Only H ∧ SqL K H a (ns.map V.int) ∧ ∀ H', Q (.bl true) H'
theorem intsRV {K : PySem.W.Frag} {io : List Addr} {H : Hp} : ∀ (ns : List Int), RVs K io H (ns.map D.int) (ns.map V.int)
  | [] => RVs.nil
  | n :: ns => RVs.cons mInt (intsRV ns)
theorem spM_law {K : PySem.W.Frag} {mg : Str → Option Value} {m : Mir} {a : Addr} {ns : List Int} {S' : Sto} {H : Hp} {Q : VK} {E : XK} (hm : m [.ref 0] [.rol (ns.map D.int)] = some (.ok (.bl true), S')) (ho : Only H) (hS : SqL K H a (ns.map V.int)) (q : ∀ H', Q (.bl true) H') : spM K mg m [.ref a] H Q E := by
  have hr : ROL K H a (ns.map V.int) := by
    rcases hS with (hS | hS) | hS
    · rcases ho a with z | ⟨o, xs, z⟩
      · rw [z] at hS; cases hS
      · rw [z] at hS; cases hS
    · exact .inl hS
    · exact .inr hS
  refine ⟨[a], [.rol (ns.map D.int)], [.ref 0], _, S', ⟨rfl, fun n o b e1 e2 => ?_, fun m n b o u e1 e2 e3 e4 m1 m2 => ?_⟩, RVs.one (by unfold RV; exact ⟨a, rfl, rfl⟩), hm, fun io' H' v _ _ rv => ?_⟩
  · match n with
    | 0 =>
      cases e1
      cases e2
      exact ⟨_, hr, intsRV ns⟩
    | n + 1 => simp at e1
  · match m with
    | 0 =>
      cases e3
      cases m1
    | m + 1 => simp at e3
  · rw [sBl rv]
    exact q H'
theorem spLaw_imp {K : PySem.W.Frag} {mg : Str → Option Value} {m : Mir} (h : ∀ ns : List Int, ns.length ≤ 63 → ∃ S', m [.ref 0] [.rol (ns.map D.int)] = some (.ok (.bl true), S')) (vs : List V) (H : Hp) (Q : VK) (E : XK) (q : spLaw K vs H Q E) : spM K mg m vs H Q E := by
  obtain ⟨a, ns, rfl, hl, ho, hS, q⟩ := q
  obtain ⟨S', hm⟩ := h ns hl
  exact spM_law hm ho hS q
/-- the same for a law that looks at its numbers: none of them is too great -/
def spLawB (K : PySem.W.Frag) : Sp := fun vs H Q _ => ∃ (a : Addr) (ns : List Int), vs = [.ref a] ∧ ns.length ≤ 63 ∧ (∀ z ∈ ns, Builtin.Int.intBits z ≤ 1048576) ∧ Only H ∧ SqL K H a (ns.map V.int) ∧ ∀ H', Q (.bl true) H'
theorem spLaw_impB {K : PySem.W.Frag} {mg : Str → Option Value} {m : Mir} (h : ∀ ns : List Int, ns.length ≤ 63 → (∀ z ∈ ns, Builtin.Int.intBits z ≤ 1048576) → ∃ S', m [.ref 0] [.rol (ns.map D.int)] = some (.ok (.bl true), S')) (vs : List V) (H : Hp) (Q : VK) (E : XK) (q : spLawB K vs H Q E) : spM K mg m vs H Q E := by
  obtain ⟨a, ns, rfl, hl, hz, ho, hS, q⟩ := q
  obtain ⟨S', hm⟩ := h ns hl hz
  exact spM_law hm ho hS q
/-- a def that can be called, and what it does -/
structure Cal (P : Program) (w : World) (K : PySem.W.Frag) (mg : Str → Option Value) (base : Heap) (x : Str) (k : Nat) (ps : List Str) (m : Mir) : Prop where
  ex : ∃ (a : Addr) (fd : FuncData), FnOk P w K mg base (L2.CX P w) k a fd ps (spM K mg m) ∧ mg x = some (.ref a) ∧ PySem.W.keepIn K (.ref a) = true ∧ Binds K fd ps []
theorem Cal.clean {P : Program} {w : World} {K : PySem.W.Frag} {mg : Str → Option Value} {base : Heap} {x : Str} {k : Nat} {ps : List Str} {m c : Mir} (C : Cal P w K mg base x k ps m) (h : Cleans m c) : Cal P w K mg base x k ps c := by
  obtain ⟨a, fd, F, r⟩ := C.ex
  exact ⟨a, fd, F.imp h.imp, r⟩
theorem cal_mk {P : Program} {w : World} {K : PySem.W.Frag} {mg : Str → Option Value} {base : Heap} {x q : Str} {st : Stmt} {a : Addr} {fd : FuncData} {k : Nat} {ps : List Str} {m : Mir} (F : Fun K x q st a fd) (g : mg x = some (.ref a)) (h : FnOk P w K mg base (L2.CX P w) k a fd ps (spM K mg m)) (b : Binds K fd ps []) : Cal P w K mg base x k ps m := ⟨a, fd, h, g, F.kp, b⟩
section
variable {X : Cx} {W : XK} {ps : List Str} {k : Nat} {m : Mir} {x : Str} {p pos : Pos} {e : Expr} {es : List Expr} {fs : Ev → Sto → Ans (List D)}
theorem d_cal (C : Cal X.prog X.w X.K X.mg X.base x k ps m) (hr : Room k X.A) (hg : Gl X x) (hx : Passes (L2.CX X.prog X.w) X W) (ha : DA X W (e :: es) fs) (hdb : (x == ("__debug__" : Str)) = false := by decide) (he : starEach (e :: es) X.env = (false, eval e X.env) :: starEach es X.env := by rfl) (hpl : (backTo pos (starEach es X.env)).any (·.1) = false := by rfl) :
    DE X W (.Call (.Name x p) (e :: es) [] pos) (dCall m fs) := by
  obtain ⟨a, fd, F, g, kp, b⟩ := C.ex
  exact d_call F hr hg g kp b hx ha hdb he hpl
theorem d_cal0 (C : Cal X.prog X.w X.K X.mg X.base x k ps m) (hr : Room k X.A) (hg : Gl X x) (hx : Passes (L2.CX X.prog X.w) X W) (hdb : (x == ("__debug__" : Str)) = false := by decide) : DE X W (.Call (.Name x p) [] [] pos) (dCall m dNil) := by
  obtain ⟨a, fd, F, g, kp, b⟩ := C.ex
  exact d_call0 F hr hg g kp b hx hdb
end
theorem passX {P : Program} {w : World} {K : PySem.W.Frag} {mg : Str → Option Value} {base : Heap} {N : List Str} {qual : Str} {scope : Scope} {f : Addr} {cd : Value} {A : Around} {outer : List Env} {s : Shared} {H : Hp} {E : XK} :
    Passes (L2.CX P w) (cxOf (L2.CX P w) P w K mg base N qual scope f cd A outer s H E) E := passes_call (W := fun c d _ H => E c d H) (takes_of rfl rfl rfl rfl) fun _ _ _ _ h => h
theorem cxF {P : Program} {w : World} {o : List Env} {H : Hp} {s : Shared} {e : Value} {s' : Shared} (h : L2.CX P w o H s (fun _ _ _ => False) e s') : False := by
  obtain ⟨_, _, _, _, _, _, _, _, _, _, _, _, z⟩ := h
  exact z
/-! an item of a list for o[i] op= e -/
section
variable {X : Cx}
theorem o_itemL : OpD X getItem gIxL := by
  intro pins s σ H x y v u Q I rx ry h
  obtain ⟨io, S, a, b, d, S', rs, r1, r2, hg, q⟩ := h
  unfold gIxL at hg
  split at hg
  · split at hg
    · rename_i ds hs
      split at hg
      · rename_i e he
        split at hg
        · rename_i h0
          cases hg
          obtain ⟨p, vs, rfl, _, e2, e3⟩ := rs.seq (seq_ref hs) r1
          obtain ⟨w, w1, w2⟩ := e3.at he
          have := sIntII r2
          subst this
          cases rx
          obtain ⟨t, rfl⟩ := ry
          obtain ⟨its, r, pl, hz⟩ := I.list e2
          obtain ⟨j, h1, h2, h3, h4, h5⟩ := atI_get w1
          obtain ⟨u, eu, ru⟩ := r.get h2
          have hn := line63
          rw [seqIndex_of h0 h5] at h1
          have hj := Option.some.inj h1
          exact wpAny_getItem_list pl.isList h0 (by omega) (by rw [hj]; simpa using eu) ⟨w, H, I, ru, q io H _ Ext.refl rs w2⟩
        · cases hg
      · cases hg
    · cases hg
  · cases hg
end
end DL
namespace DL
open PySem PySem.Spec PyProof.Rows L2 RT RZ
def gNeg : D → Sto → Option (D × Sto)
  | .int i, S => some (.int (-i), S)
  | _, _ => none
theorem u_neg {X : Cx} : UnD X (unaryOp .USub) gNeg := by
  intro pins s σ H x v Q I rx h
  obtain ⟨io, S, a, d, S', rs, r1, hg, q⟩ := h
  unfold gNeg at hg
  split at hg
  · cases hg
    exact un_neg pins s σ H x v Q I rx ⟨_, sIntII r1, q io H _ Ext.refl rs mInt⟩
  · cases hg
/-! ### enumerate of a tuple -/
section
open AutoSeq1 (wpAny_loadPart')
theorem meets_enumerate_newT (l : Addr) (items : Array Value) (n : Nat) (dct : Option Addr) (sl : Array (Option Value)) :
    Meets (Builtin.«enumerate.__new__» ⟨[.type "enumerate", .ref l], []⟩) (fun _ R s => s.heap.get? l = some { cls := .type "tuple", dict := dct, data := .seq items n, slots := sl } ∧
      R (.ok (.ret (.ref (s.heap.push { cls := .type "tuple_iterator", data := .fields #[.ref l, .int 0 0] }).objs.size)))
        { s with heap := (s.heap.push { cls := .type "tuple_iterator", data := .fields #[.ref l, .int 0 0] }).push { cls := .type "enumerate", data := .fields #[.none, .bool false, .ref s.heap.objs.size, rawInt 0, .none, .none] } }) :=
  .of_wp fun prog w A R s h => by
    obtain ⟨hp, g, d, tk, os⟩ := s; obtain ⟨hl, h⟩ := h
    have hsub := sub_enumerate
    have hL : Heap.IsTuple (Shared.heap ⟨hp, g, d, tk, os⟩) l items := ⟨_, hl, rfl, n, rfl⟩
    wp_walk using wpAny_loadPart' hl
    refine wpAny_stack_any fun st => wpAny_pure ?_
    split
    · rename_i c _ _ _ _ _
      cases (c == Value.type "enumerate")
      · wp_walk using wpAny_loadPart' hl, wpAny_pyIter_tuple hL
        exact ⟨_, rfl, h⟩
      · wp_walk using wpAny_loadPart' hl, wpAny_pyIter_tuple hL
        exact ⟨_, rfl, h⟩
    · wp_walk using wpAny_loadPart' hl, wpAny_pyIter_tuple hL
      exact ⟨_, rfl, h⟩
section
variable {prog : Program} {w : World} {A : Around} {E : Value → Shared → Prop} {s : Shared}
theorem call_enumerate_tuple {l : Addr} {items : Array Value} {Q : Value → Shared → Prop} (hL : s.heap.IsTuple l items)
    (h : ∀ h', IsEnum h' (s.heap.objs.size + 1) s.heap.objs.size 0 .none → h'.IsTupleIter s.heap.objs.size l 0 → h'.objs.size = s.heap.objs.size + 2 →
      (∀ b o, s.heap.get? b = some o → h'.get? b = some o) → Q (.ref (s.heap.objs.size + 1)) { s with heap := h' }) :
    wpAny (model prog w) A (call (.type "enumerate") [.ref l]) Q E s := by
  obtain ⟨⟨c, dct, dt, sl⟩, hl, hc, n, hd⟩ := hL
  replace hc : c = .type "tuple" := hc
  replace hd : dt = .seq items n := hd
  subst hc hd
  refine callType_new F.called_enumerate (by decide) (F.typeCall_enumerate_1 _) (F.newCall_enumerate_1 _) (fun obj => F.args_object_init_2 obj _) F.entry_enumerate_new
    (meets_enumerate_newT l items n dct sl) ⟨hl, ?_⟩
  have hz : (s.heap.push { cls := .type "tuple_iterator", data := .fields #[.ref l, .int 0 0] }).objs.size = s.heap.objs.size + 1 := Heap.size_push ..
  show _ ∧ _
  rw [hz]
  have he : IsEnum ((s.heap.push { cls := .type "tuple_iterator", data := .fields #[.ref l, .int 0 0] }).push
      { cls := .type "enumerate", data := .fields #[.none, .bool false, .ref s.heap.objs.size, rawInt 0, .none, .none] }) (s.heap.objs.size + 1) s.heap.objs.size 0 .none := by
    have := Heap.get?_push_size (s.heap.push { cls := .type "tuple_iterator", data := .fields #[.ref l, .int 0 0] })
      (o := { cls := .type "enumerate", data := .fields #[.none, .bool false, .ref s.heap.objs.size, rawInt 0, .none, .none] }) rfl
    rw [hz] at this; exact this
  refine ⟨⟨_, he, rfl⟩, h _ he ⟨_, Heap.get?_push_of_some _ (Heap.get?_push_size _ rfl), rfl, rfl⟩ (by rw [Heap.size_push, hz]) fun b o x => Heap.get?_push_of_some _ (Heap.get?_push_of_some _ x)⟩
end
end
/-- the tuple at a, each item in a new pair -/
def IteT (K : PySem.W.Frag) (a : Addr) : It :=
  ⟨fun i H => ∃ (xs : List V) (x : V), SqT K H a xs ∧ xs[i]? = some x, fun i H v H' => ∃ T x, v = .ref T ∧ H T = none ∧ H' = upd H T (.tup [.int (i : Nat), x]) ∧ ∀ xs, SqT K H a xs → xs[i]? = some x, fun i H => ∃ xs : List V, SqT K H a xs ∧ xs.length ≤ i⟩
theorem turn_enumT {P : Program} {w : World} {K : PySem.W.Frag} {elts : List Expr} {kk : Nat} {tpos : Pos} (a e it : Addr) :
    Turn P w K (.Tuple elts kk tpos) (IteT K a) [e, it] e (fun i h => (∃ old, IsEnum h e it ((i : Nat) : Int) old) ∧ h.IsTupleIter it a i ∧ e ≠ it) where
  mem := by simp
  obj := fun i h st b hb => by
    obtain ⟨⟨old, he⟩, ⟨o, ho, hc, hd⟩, _⟩ := st
    have e' : b = e ∨ b = it := by simpa using hb
    rcases e' with z | z
    · rw [z]; exact ⟨_, he, fun v q => nomatch q⟩
    · rw [z]; exact ⟨o, ho, fun v q => by rw [hd] at q; cases q⟩
  keep := fun i h h' st k => let ⟨⟨old, he⟩, hi, hne⟩ := st; ⟨⟨old, k e (by simp) _ he⟩, hi.at fun o q => k it (by simp) o q, hne⟩
  item := by
    intro X hP hw hK hc i pins s σ H E I hf st hg
    subst hP hw hK
    obtain ⟨⟨old, he⟩, hit, hne⟩ := st
    obtain ⟨xs, x, hq, hx⟩ := hg
    obtain ⟨its, rv, p, hz⟩ := I.tuple hq
    obtain ⟨u, hu, ru⟩ := rv.get hx
    have hel : e < s.heap.objs.size := Heap.lt_size he
    have hil : it < s.heap.objs.size := by obtain ⟨_, q, _⟩ := hit; exact Heap.lt_size q
    have nai : a ≠ it := fun z => by
      obtain ⟨o1, h1, c1, _⟩ := hit
      obtain ⟨o2, h2, c2, _⟩ := p
      rw [z, h1] at h2
      cases h2
      rw [c1] at c2
      exact absurd c2 (by decide)
    have nea : e ≠ a := fun z => by
      obtain ⟨o2, h2, c2, _⟩ := p
      rw [← z, he] at h2
      cases h2
      have c3 : Value.type "enumerate" = Value.type "tuple" := c2
      exact absurd c3 (by decide)
    have D : Draws X.prog X.w X.A.in1 it [it, a] its.toArray.size (fun i v => its.toArray[i]? = some v) (fun i h => h.IsTupleIter it a i ∧ h.IsTuple a its.toArray) := Draws.tuple (A := X.A.in1) (I.ok.hd hc) it a nai its.toArray
    have hu' : its.toArray[i]? = some u := by simpa using hu
    refine wpAny_pyNext_enum_itemD D he ⟨hit, p⟩ (Array.getElem?_eq_some_iff.mp hu').1 hne (by simp [hne, nea]) fun u' h' tk hu2 ho hit' hT hsz hk => ?_
    rw [hu'] at hu2
    cases hu2
    refine ⟨_, rfl, wpAny_letOwnedTupleGo_enum (s := { s with heap := h', toks := tk + 1 }) ho fun h'' he' sb => ?_⟩
    have hT2 : h''.get? s.heap.objs.size = some { cls := .type "tuple", data := .seq #[.int i tk, u] } := (sb.2 _ (Nat.ne_of_gt hel)).trans hT
    have new : ObjOk X.prog X.w (upd H s.heap.objs.size (.tup [.int (i : Nat), x])) h'' s.heap.objs.size (.tup [.int (i : Nat), x]) :=
      ⟨by show 2 ≤ sizeLine; decide, [.int i tk, u], .cons ⟨_, rfl⟩ (.cons ru .nil), ⟨_, hT2, rfl, _, rfl⟩⟩
    have I1 : Inv X pins σ (upd H s.heap.objs.size (.tup [.int (i : Nat), x])) { s with heap := h'', toks := tk + 1 } :=
      I.turnedNew (ch := [e, it]) (fun b ob hb q => (sb.2 b (fun z => hb (by simp [z]))).trans (hk b ob (fun z => hb (by simp [z])) (fun z => hb (by simp [z])) q)) hf (Nat.le_refl _) new
    refine ⟨.ref s.heap.objs.size, _, I1, rfl, ⟨_, x, rfl, I.hok.fresh (Nat.le_refl _), rfl, fun ys hy => by rw [I.tuple_inj hy hq]; exact hx⟩, ⟨⟨u, ?_⟩, hit'.1.at fun o q => (sb.2 it (Ne.symm hne)).trans q, hne⟩, fun b hb => ?_⟩
    · have e1 : ((i + 1 : Nat) : Int) = (i : Int) + 1 := by omega
      rw [e1]; exact he'
    · have hb' : b < s.heap.objs.size := by
        have e' : b = e ∨ b = it := by simpa using hb
        rcases e' with z | z
        · rw [z]; exact hel
        · rw [z]; exact hil
      rw [upd_ne (Nat.ne_of_lt hb')]
      exact (hf b hb).1
  done := by
    intro X hP hw hK hc i pins s σ H E I hf st hg
    subst hP hw hK
    obtain ⟨⟨old, he⟩, hit, hne⟩ := st
    obtain ⟨xs, hq, hx⟩ := hg
    obtain ⟨its, rv, p, hz⟩ := I.tuple hq
    obtain ⟨f0, f1, f2, f3, f4, f5⟩ := hf it (by simp)
    have hl := rv.length
    have nai : a ≠ it := fun z => by
      obtain ⟨o1, h1, c1, _⟩ := hit
      obtain ⟨o2, h2, c2, _⟩ := p
      rw [z, h1] at h2
      cases h2
      rw [c1] at c2
      exact absurd c2 (by decide)
    have hend : its.toArray[i]? = none := by simp; omega
    have hT : s.TypeIs (.ref e) "enumerate" := ⟨_, he, rfl⟩
    unfold pyNext
    refine wpAny_bind (wpAny_attempt (wpAny_callSpecial?_slot (name := Str.ofString "__next__") hT F.slot_enumerate_next
      (wpAny_call_entry F.slot_enumerate_next hT F.entry_enumerate_next ?_ (F.args_enumerate_next_1 _))))
    show wpAny _ _ (field (.ref e) 2 >>= _) _ _ _
    refine wpAny_bind (wpAny_field he rfl (x := .ref it) rfl ?_)
    refine wpAny_bind (wpAny_nextOf_tuple_end (I.ok.hd hc) hit p hend fun h' x eb hx' => ?_)
    obtain ⟨o, ho, hc⟩ := hx'
    refine wpAny_bind (wpAny_isInstance (T := "StopIteration") (b := true) ⟨o, ho, hc⟩ isSubtype_stop ?_)
    exact wpAny_pure ⟨rfl, I.turned (t' := s.toks) (fun b o hb q => eb b o hb q) f0 f1 f3 f4 f5⟩
  self := fun A i s Q E st h => let ⟨⟨_, he⟩, _⟩ := st; wpAny_pyIter_enum he h
def iEnumT (K : PySem.W.Frag) (ta : TA) : TI := fun σ H R => ta σ H fun vs H1 => ∃ a xs, vs = [.ref a] ∧ SqT K H1 a xs ∧ R (IteT K a) H1
theorem pi_enumT {X : Cx} {e : Expr} {ta : TA} {p pos tpos : Pos} {elts : List Expr} {kk : Nat} (hg : Gl X "enumerate") (hm : X.mg "enumerate" = none) (ha : PA X [e] ta) (hs : starEach [e] X.env = [(false, eval e X.env)] := by rfl) :
    PI X (.Tuple elts kk tpos) (.Call (.Name "enumerate" p) [e] [] pos) (iEnumT X.K ta) := by
  refine ⟨fun pins s σ H R I h => ?_⟩
  refine Call_ (ld_blt I hg hm boot_enumerate (PyProof.Rows.callWith_type1 (thn (ha.run pos pins s σ H _ I h) fun us s1 ⟨vs, H1, I1, r1, q1⟩ => ?_) hs rfl))
  obtain ⟨a, xs, ex, hq, q⟩ := q1
  subst ex
  cases r1 with
  | cons r rr =>
    cases rr
    cases r
    obtain ⟨its, rv, p', hz⟩ := I1.tuple hq
    refine call_enumerate_tuple p' fun h' he hit hsz hk => wpAny_pyIter_enum he ?_
    have I2 : Inv X pins σ H1 { s1 with heap := h' } := I1.kept (t' := s1.toks) hk
    refine ⟨s1.heap.objs.size + 1, [s1.heap.objs.size + 1, s1.heap.objs.size], _, _, H1, rfl, I2, turn_enumT a (s1.heap.objs.size + 1) s1.heap.objs.size, ⟨⟨.none, he⟩, hit, Nat.succ_ne_self _⟩, fun b hb => ?_, q⟩
    have e' : b = s1.heap.objs.size + 1 ∨ b = s1.heap.objs.size := by simpa using hb
    have hle : s1.heap.objs.size ≤ b := by
      rcases e' with z | z
      · rw [z]; exact Nat.le_add_right _ _
      · rw [z]; exact Nat.le_refl _
    exact I1.fpOk hle (I1.hok.fresh hle)
theorem ItOk.enumT {K : PySem.W.Frag} {io : List Addr} {H : Hp} {a : Addr} {vs : List V} {ds : List D} (ok : Sto → Prop) (ha : SqT K H a vs) (hd : RVs K io H ds vs) : ItOk K io H ⟨ok, enumD ds⟩ (IteT K a) := fun i io' S' H' ex rs _ => by
  have e3 := ex.tup a vs ha
  have e4 := RVs.mono ex ds vs hd
  refine ⟨fun hi => ⟨vs, e3, by rw [← e4.length]; simpa [enumD] using hi⟩, fun x hx => ?_⟩
  have hx0 : (enumD ds)[i]? = some x := hx
  unfold enumD at hx0
  rw [List.getElem?_map, List.getElem?_zipIdx] at hx0
  cases hd : ds[i]? with
  | none => rw [hd] at hx0; cases hx0
  | some d =>
    rw [hd] at hx0
    cases hx0
    obtain ⟨v, h1, h2⟩ := e4.get hd
    refine ⟨⟨vs, v, e3, h1⟩, fun w H2 hy => ?_⟩
    obtain ⟨T, x, rfl, hT, rfl, hy⟩ := hy
    have := hy vs e3
    rw [h1] at this
    cases this
    refine ⟨io', Ext.fresh hT, rs.tupNew hT, ?_⟩
    have := tup2 (K := K) (a := .int ((i : Nat) : Int)) (x := .int ((i : Nat) : Int)) hT (by simp [RV]) h2
    simpa using this
def wEnumA (fs : Ev → Sto → Ans (List D)) : Ev → Sto → Ans Wk := fun env S => bindR (fs env S) fun ds S1 => match ds with
  | [d] => match seqOf d S1 with
    | some xs => some (.ok ⟨fun S => seqOf d S = some xs, enumD xs⟩, S1)
    | none => none
  | _ => none
section
variable {X : Cx} {W : XK} {e : Expr} {fs : Ev → Sto → Ans (List D)} {p pos tpos : Pos} {elts : List Expr} {kk : Nat}
/-- a list or a tuple -/
theorem di_enumA (hg : Gl X "enumerate") (hm : X.mg "enumerate" = none) (ha : DA X W [e] fs) (hf1 : ∀ env S ds S', fs env S = some (.ok ds, S') → ds.length = 1) (hs : starEach [e] X.env = [(false, eval e X.env)] := by rfl) : DI X W (.Tuple elts kk tpos) (.Call (.Name "enumerate" p) [e] [] pos) (wEnumA fs) :=
  pi_weak (pi_or (pi_enum hg hm ha hs) (pi_enumT hg hm ha hs)) fun σ H R ⟨io, S, env, r, S', rs, re, hf, hE⟩ => by
    unfold wEnumA at hf
    cases hd : fs env S with
    | none => rw [hd] at hf; cases hf
    | some q =>
      obtain ⟨ra, S1⟩ := q
      cases ra with
      | ex x =>
        rw [hd] at hf
        cases hf
        exact .inl ⟨io, S, env, _, _, rs, re, hd, hE⟩
      | ok ds =>
        obtain ⟨d, rfl⟩ := one_of (hf1 _ _ _ _ hd)
        by_cases ht : isTup d = true
        · refine .inr (tG_bind2 rs re hf hE fun d' S1' io1 H1 v hd' e1 rs1 re1 rv1 h1 hE1 => ?_)
          rw [hd] at hd'
          cases hd'
          obtain ⟨v, rfl, rv2⟩ := rvs1 rv1
          cases d with
          | tup ds =>
            unfold RV at rv2
            obtain ⟨a, vs, rfl, e2, e3⟩ := rv2
            cases h1
            exact ⟨a, vs, rfl, e2, hE1.now rs1 (ItOk.enumT _ e2 e3)⟩
          | _ => cases ht
        · refine .inl (tG_bind2 rs re hf hE fun d' S1' io1 H1 v hd' e1 rs1 re1 rv1 h1 hE1 => ?_)
          rw [hd] at hd'
          cases hd'
          obtain ⟨v, rfl, rv2⟩ := rvs1 rv1
          cases d with
          | ref n =>
            cases hs : seqOf (.ref n) S1 with
            | none => simp only [hs] at h1; cases h1
            | some xs =>
              simp only [hs] at h1
              cases h1
              obtain ⟨a, vs, rfl, e2, e3, e4⟩ := rs1.seq (seq_ref hs) rv2
              exact ⟨a, vs, rfl, e3, hE1.now rs1 (ItOk.enum e2)⟩
          | tup _ => exact absurd rfl ht
          | _ => cases h1
end
/-! recursion: a chain of computations -/
theorem cal_none {P : Program} {w : World} {K : PySem.W.Frag} {mg : Str → Option Value} {base : Heap} {x q : Str} {st : Stmt} {a : Addr} {fd : FuncData} {k : Nat} {ps : List Str} (F : Fun K x q st a fd) (g : mg x = some (.ref a)) (b : Binds K fd ps []) : Cal P w K mg base x k ps (fun _ _ => none) :=
  ⟨a, fd, ⟨(fun _ _ _ _ h => by obtain ⟨_, _, _, _, _, _, _, h, _⟩ := h; cases h), (fun _ _ _ _ _ _ _ _ _ _ _ _ _ h => by obtain ⟨_, _, _, _, _, _, _, h, _⟩ := h; cases h)⟩, g, F.kp, b⟩
theorem cal_rec {P : Program} {w : World} {K : PySem.W.Frag} {mg : Str → Option Value} {base : Heap} {x : Str} {ps : List Str} {G : Mir → Mir} {Fn : Nat → Mir} {b : Nat} (h0 : Cal P w K mg base x (b + 0) ps (fun _ _ => none)) (hs : ∀ n m, Cal P w K mg base x (b + n) ps m → Cal P w K mg base x (b + n + 1) ps (G m)) (e0 : Fn 0 = fun _ _ => none) (e : ∀ n, Fn (n + 1) = G (Fn n)) : ∀ n, Cal P w K mg base x (b + n) ps (Fn n)
  | 0 => by
    rw [e0]
    exact h0
  | n + 1 => by
    rw [e n]
    exact hs n _ (cal_rec h0 hs e0 e n)
end DL
namespace DL
open PySem PySem.Spec PyProof.Rows L2 RT RZ
/-! ### defaults and keywords -/
abbrev DK (X : Cx) (W : XK) (ks : List Keyword) (f : Ev → Sto → Ans (List D)) : Prop := PK X ks (tMA X.K X.mg W f)
theorem pk_weak {X : Cx} {ks : List Keyword} {t t' : TA} (h : PK X ks t) (w : ∀ σ H Q, t' σ H Q → t σ H Q) : PK X ks t' := ⟨fun pos pins s σ H Q I q => h.run pos pins s σ H Q I (w σ H Q q)⟩
section
variable {X : Cx} {W : XK} {e : Expr} {es : List Expr} {fa : Ev → Sto → Ans D} {fs fk : Ev → Sto → Ans (List D)} {ks : List Keyword} {nm : Option Str} {kpos : Pos}
theorem dk_nil : DK X W [] dNil := pk_weak pk_nil fun σ H Q ⟨io, S, env, r, S', rs, re, hf, hE⟩ => by
  cases hf
  exact hE.now rs RVs.nil
theorem dk_cons (ha : DE X W e fa) (hr : DK X W ks fk) : DK X W (⟨nm, e, kpos⟩ :: ks) (dCons fa fk) :=
  pk_weak (pk_cons ha hr) fun σ H Q ⟨io, S, env, r, S', rs, re, hf, hE⟩ =>
    tG_bind rs re hf hE fun x S1 io1 H1 v e1 rs1 re1 rv1 h1 hE1 => tG_bind rs1 re1 h1 hE1 fun y S2 io2 H2 w e2 rs2 re2 rv2 h2 hE2 => by
      cases h2
      exact hE2.now rs2 (RVs.cons (RV.mono e2 x v rv1) rv2)
end
theorem RVs.app {K : PySem.W.Frag} {io : List Addr} {H : Hp} : ∀ {ds es : List D} {vs us : List V}, RVs K io H ds vs → RVs K io H es us → RVs K io H (ds ++ es) (vs ++ us)
  | [], _, vs, _, h, g => by
    have := h.length
    simp at this
    rw [List.eq_nil_of_length_eq_zero this.symm]
    exact g
  | d :: ds, _, vs, _, h, g => by
    unfold RVs at h
    obtain ⟨v, r, rfl, h1, h2⟩ := h
    exact RVs.cons h1 (RVs.app h2 g)
/-- a def called with its last parameters by default -/
structure CalD (P : Program) (w : World) (K : PySem.W.Frag) (mg : Str → Option Value) (base : Heap) (x : Str) (k : Nat) (ps : List Str) (m : Mir) (dd : List D) : Prop where
  ex : ∃ (a : Addr) (fd : FuncData) (ds : List Value) (dvs : List V), FnOk P w K mg base (L2.CX P w) k a fd ps (spM K mg m) ∧ mg x = some (.ref a) ∧ PySem.W.keepIn K (.ref a) = true ∧ Binds K fd ps ds ∧ Vals dvs ds ∧ ∀ io H, RVs K io H dd dvs
/-- a def called with its last parameters by keyword -/
structure CalK (P : Program) (w : World) (K : PySem.W.Frag) (mg : Str → Option Value) (base : Heap) (x : Str) (k : Nat) (ps : List Str) (m : Mir) (n : Nat) (ks : List Str) : Prop where
  ex : ∃ (a : Addr) (fd : FuncData), FnOk P w K mg base (L2.CX P w) k a fd ps (spM K mg m) ∧ mg x = some (.ref a) ∧ PySem.W.keepIn K (.ref a) = true ∧ KBn K fd ps n ks (fun us ws => us ++ ws) (fun vs zs => vs ++ zs)
theorem CalD.clean {P : Program} {w : World} {K : PySem.W.Frag} {mg : Str → Option Value} {base : Heap} {x : Str} {k : Nat} {ps : List Str} {m c : Mir} {dd : List D} (C : CalD P w K mg base x k ps m dd) (h : Cleans m c) : CalD P w K mg base x k ps c dd := by
  obtain ⟨a, fd, ds, dvs, F, r⟩ := C.ex
  exact ⟨a, fd, ds, dvs, F.imp h.imp, r⟩
theorem CalK.clean {P : Program} {w : World} {K : PySem.W.Frag} {mg : Str → Option Value} {base : Heap} {x : Str} {k n : Nat} {ps ks : List Str} {m c : Mir} (C : CalK P w K mg base x k ps m n ks) (h : Cleans m c) : CalK P w K mg base x k ps c n ks := by
  obtain ⟨a, fd, F, r⟩ := C.ex
  exact ⟨a, fd, F.imp h.imp, r⟩
def dCallD (m : Mir) (dd : List D) (fs : Ev → Sto → Ans (List D)) : Ev → Sto → Ans D := fun env S => bindR (fs env S) fun ds S1 => m (ds ++ dd) S1
def dCallK (m : Mir) (n k : Nat) (fs fk : Ev → Sto → Ans (List D)) : Ev → Sto → Ans D := fun env S => bindR (fs env S) fun ds S1 => bindR (fk env S1) fun es S2 => if ds.length = n ∧ es.length = k then m (ds ++ es) S2 else none
section
variable {X : Cx} {W : XK} {ps ks : List Str} {k n : Nat} {m : Mir} {dd : List D} {x : Str} {p pos : Pos} {e : Expr} {es : List Expr} {kws : List Keyword} {fs fk : Ev → Sto → Ans (List D)}
theorem d_calD (C : CalD X.prog X.w X.K X.mg X.base x k ps m dd) (hr : Room k X.A) (hg : Gl X x) (hx : Passes (L2.CX X.prog X.w) X W) (ha : DA X W (e :: es) fs) (hdb : (x == ("__debug__" : Str)) = false := by decide) (he : starEach (e :: es) X.env = (false, eval e X.env) :: starEach es X.env := by rfl) (hpl : (backTo pos (starEach es X.env)).any (·.1) = false := by rfl) :
    DE X W (.Call (.Name x p) (e :: es) [] pos) (dCallD m dd fs) := by
  obtain ⟨a, fd, ds, dvs, F, g, kp, b, rd, rr⟩ := C.ex
  exact pe_weak (pe_call F hr hg g kp b rd hx ha hdb he hpl) fun σ H Q ⟨io, S, env, r, S', rs, re, hf, hE⟩ =>
    tG_bind rs re hf hE fun ds S1 io1 H1 v e1 rs1 re1 rv1 h1 hE1 => ⟨io1, S1, ds ++ dd, r, S', rs1, rv1.app (rr io1 H1), h1, hE1⟩
theorem d_calK (C : CalK X.prog X.w X.K X.mg X.base x k ps m n ks) (hr : Room k X.A) (hg : Gl X x) (hx : Passes (L2.CX X.prog X.w) X W) (ha : DA X W (e :: es) fs) (hkw : DK X W kws fk)
    (hall : (backToKw pos (keywordEach kws X.env)).all (·.1.isSome) = true := by rfl) (hks : (backToKw pos (keywordEach kws X.env)).filterMap (·.1) = ks := by rfl)
    (hdb : (x == ("__debug__" : Str)) = false := by decide) (he : starEach (e :: es) X.env = (false, eval e X.env) :: starEach es X.env := by rfl) (hpl : ((backTo pos (starEach (e :: es) X.env)).any (·.1) || (backToKw pos (keywordEach kws X.env)).any (·.1.isNone)) = false := by rfl) :
    DE X W (.Call (.Name x p) (e :: es) kws pos) (dCallK m n ks.length fs fk) := by
  obtain ⟨a, fd, F, g, kp, b⟩ := C.ex
  exact pe_weak (pe_callN F hr hg g kp b hx ha hkw hall hks hdb he hpl) fun σ H Q ⟨io, S, env, r, S', rs, re, hf, hE⟩ =>
    tG_bind rs re hf hE fun ds S1 io1 H1 v e1 rs1 re1 rv1 h1 hE1 => tG_bind rs1 re1 h1 hE1 fun zs S2 io2 H2 w e2 rs2 re2 rv2 h2 hE2 => by
      split at h2
      · rename_i hl
        have rv1' := RVs.mono e2 _ _ rv1
        exact ⟨by rw [← rv1'.length]; exact hl.1, by rw [← rv2.length]; exact hl.2, ⟨io2, S2, ds ++ zs, r, S', rs2, rv1'.app rv2, h2, hE2⟩⟩
      · cases h2
end
/-- a def whose keyword-only parameters have one and the same kind of default: it stands as a def with defaults -/
theorem funD_mk {K : PySem.W.Frag} {x : Str} {st : Stmt} {a D T : Addr} {oc doc pm cd ct : Value} {od an : Option Addr} {sl : Array (Option Value)} {y : Str} (l : K.lookup a = some ⟨oc, od, .func (PySem.W.fnOf x x (defArgs st) (defBody st) (defScope st) .none (.ref D) doc pm an cd ct), sl⟩) (c : PySem.W.codeIn K cd x = true) (k : PySem.W.keepIn K (.ref a) = true) (n : PySem.W.nsIn K D y = some (some (.ref T))) :
    FunD K x x (defArgs st) (defBody st) (defScope st) [] [(y, V.ref T)] a (PySem.W.fnOf x x (defArgs st) (defBody st) (defScope st) .none (.ref D) doc pm an cd ct) :=
  ⟨⟨oc, od, .none, .ref D, doc, pm, an, cd, ct, sl, rfl, l, c, .inl ⟨rfl, rfl⟩, .inr ⟨D, rfl, fun q hq => by
    simp only [List.mem_singleton] at hq
    subst hq
    exact ⟨_, n, rfl⟩⟩⟩, k⟩
/-- the empty tuple that stands behind the top -/
theorem unit_RV {K : PySem.W.Frag} {T : Addr} {od : Option Addr} {n : Nat} {sl : Array (Option Value)} (l : K.lookup T = some ⟨.type "tuple", od, .seq #[] n, sl⟩) (io : List Addr) (H : Hp) : RVs K io H [.tup []] [V.ref T] := RVs.one (by
  unfold RV
  exact ⟨T, [], rfl, .inr ⟨_, _, _, l, rfl, rfl, Nat.zero_le _, .nil⟩, RVs.nil⟩)
theorem calD_mk {P : Program} {w : World} {K : PySem.W.Frag} {mg : Str → Option Value} {base : Heap} {x : Str} {st : Stmt} {a D T : Addr} {oc doc pm cd ct : Value} {od an od2 : Option Addr} {sl sl2 : Array (Option Value)} {y : Str} {k n2 : Nat} {ps : List Str} {m : Mir}
    (l : K.lookup a = some ⟨oc, od, .func (PySem.W.fnOf x x (defArgs st) (defBody st) (defScope st) .none (.ref D) doc pm an cd ct), sl⟩) (c : PySem.W.codeIn K cd x = true) (kp : PySem.W.keepIn K (.ref a) = true) (n : PySem.W.nsIn K D y = some (some (.ref T))) (lT : K.lookup T = some ⟨.type "tuple", od2, .seq #[] n2, sl2⟩)
    (g : mg x = some (.ref a)) (h : FnOk P w K mg base (L2.CX P w) k a (PySem.W.fnOf x x (defArgs st) (defBody st) (defScope st) .none (.ref D) doc pm an cd ct) ps (spM K mg m)) {j : Nat} (hn : j + 1 = ps.length)
    (hb : ∀ (D : Addr) (doc pm : Value) (an : Option Addr) (cdv ct : Value) (us ks : List Value), us.length = j → ks.length = 1 → KwChain D ([y].zip ks) (bindArgs (PySem.W.fnOf x x (defArgs st) (defBody st) (defScope st) .none (.ref D) doc pm an cdv ct) ⟨us, []⟩) (ps.zip (us ++ ks))) : CalD P w K mg base x k ps m [.tup []] := by
  obtain ⟨ds, r, b⟩ := FunD.binds0 (ps := ps) (funD_mk l c kp n) j (by simp) hn hb
  exact ⟨a, _, ds, _, h, g, kp, b, r, unit_RV lT⟩
theorem calK_mk {P : Program} {w : World} {K : PySem.W.Frag} {mg : Str → Option Value} {base : Heap} {x : Str} {st : Stmt} {a : Addr} {kV doc pm cd ct : Value} {an : Option Addr} {k j : Nat} {ps ks : List Str} {m : Mir} (kp : PySem.W.keepIn K (.ref a) = true)
    (g : mg x = some (.ref a)) (h : FnOk P w K mg base (L2.CX P w) k a (PySem.W.fnOf x x (defArgs st) (defBody st) (defScope st) .none kV doc pm an cd ct) ps (spM K mg m))
    (hb : ∀ us ws : List Value, us.length = j → ws.length = ks.length → bindArgs (PySem.W.fnOf x x (defArgs st) (defBody st) (defScope st) .none kV doc pm an cd ct) ⟨us, ks.zip ws⟩ = pure (ps.zip (us ++ ws))) : CalK P w K mg base x k ps m j ks :=
  ⟨a, _, h, g, kp, ⟨fun s us ws _ l1 l2 => .of_eq (hb us ws l1 l2), fun r1 r2 => r1.append r2⟩⟩
end DL
namespace DL
open PySem PySem.Spec PyProof.Rows L2 RT RZ

/-! ### plain lemmas about the computations -/
section
variable {α β : Type} {S S' : Sto} {env env' : Ev}
@[simp] theorem bindR_okE (a : α) (S : Sto) (k : α → Sto → Ans β) : bindR (some (.ok a, S)) k = k a S := rfl
@[simp] theorem bindR_noneE (k : α → Sto → Ans β) : bindR (none : Ans α) k = none := rfl
@[simp] theorem bindR_exE (e : Exn) (S : Sto) (k : α → Sto → Ans β) : bindR (some (.ex e, S)) k = some (.ex e, S) := rfl
@[simp] theorem bindS_okE (a : α) (S : Sto) (env : Ev) (k : α → Sto → AnsS) : bindS (some (.ok a, S)) env k = k a S := rfl
@[simp] theorem bindS_exE (e : Exn) (S : Sto) (env : Ev) (k : α → Sto → AnsS) : bindS (some (.ex e, S)) env k = some (.ex e, env, S) := rfl
@[simp] theorem okO_someE (a : α) (S : Sto) : okO (some (a, S)) = some (.ok a, S) := rfl
@[simp] theorem okT_someE (b : Bool) (S : Sto) : okT (some b) S = some (.ok b, S) := rfl
@[simp] theorem intsOf_map : ∀ is : List Int, intsOf (is.map D.int) = some is
  | [] => rfl
  | i :: is => by simp [intsOf, intsOf_map is]
@[simp] theorem strsOf_map : ∀ is : List Str, strsOf (is.map D.str) = some is
  | [] => rfl
  | i :: is => by simp [strsOf, strsOf_map is]
@[simp] theorem blsOf_map : ∀ is : List Bool, blsOf (is.map D.bl) = some is
  | [] => rfl
  | i :: is => by simp [blsOf, blsOf_map is]
theorem intsOf_eq : ∀ {ds : List D} {is : List Int}, intsOf ds = some is → ds = is.map D.int
  | [], _, h => by cases h; rfl
  | .int i :: ds, _, h => by
    unfold intsOf at h
    split at h
    · rename_i js hj
      cases h
      rw [intsOf_eq hj]
      rfl
    · cases h
  | .non :: _, _, h => by cases h
  | .bl _ :: _, _, h => by cases h
  | .str _ :: _, _, h => by cases h
  | .tup _ :: _, _, h => by cases h
  | .ref _ :: _, _, h => by cases h
theorem strsOf_eq : ∀ {ds : List D} {is : List Str}, strsOf ds = some is → ds = is.map D.str
  | [], _, h => by cases h; rfl
  | .str i :: ds, _, h => by
    unfold strsOf at h
    split at h
    · rename_i js hj
      cases h
      rw [strsOf_eq hj]
      rfl
    · cases h
  | .non :: _, _, h => by cases h
  | .bl _ :: _, _, h => by cases h
  | .int _ :: _, _, h => by cases h
  | .tup _ :: _, _, h => by cases h
  | .ref _ :: _, _, h => by cases h
/-- turns enough for any while -/
@[irreducible] def fuel : Nat := 1000000
theorem fuel_ge : 1000000 ≤ fuel := by
  unfold fuel
  exact Nat.le_refl _
/-! how the computations go on, for simp -/
section
variable {fa fb : Ev → Sto → Ans D} {fs : Ev → Sto → Ans (List D)} {ga gb : Ev → Sto → Ans Bool} {f g : Ev → Sto → AnsS} {op : D → D → Sto → Option (D × Sto)} {op1 : D → Sto → Option (D × Sto)} {opn : List D → Sto → Option (D × Sto)} {opm : D → List D → Sto → Option (D × Sto)} {ops : D → D → D → Sto → Option Sto} {m : Mir}
@[simp] theorem E_bindS_none {α : Type} (env : Ev) (k : α → Sto → AnsS) : bindS (none : Ans α) env k = none := rfl
@[simp] theorem E_okO_none {α : Type} : okO (none : Option (α × Sto)) = none := rfl
@[simp] theorem E_okT_none (S : Sto) : okT none S = none := rfl
@[simp] theorem E_dVar (i : Nat) : dVar i env S = match env[i]? with
  | some (some d) => some (.ok d, S)
  | _ => none := rfl
@[simp] theorem E_dC (d : D) : dC d env S = some (.ok d, S) := rfl
@[simp] theorem E_dOp : dOp op fa fb env S = bindR (fa env S) fun a S1 => bindR (fb env S1) fun b S2 => okO (op a b S2) := rfl
@[simp] theorem E_dUn : dUn op1 fa env S = bindR (fa env S) fun a S1 => okO (op1 a S1) := rfl
@[simp] theorem E_dNil : dNil env S = some (.ok [], S) := rfl
@[simp] theorem E_dCons : dCons fa fs env S = bindR (fa env S) fun a S1 => bindR (fs env S1) fun r S2 => some (.ok (a :: r), S2) := rfl
@[simp] theorem E_dCB : dCB opn fs env S = bindR (fs env S) fun ds S1 => okO (opn ds S1) := rfl
@[simp] theorem E_dM (T : String) : dM T opm fa fs env S = bindR (fa env S) fun a S1 => if tyM T a S1 = true then bindR (fs env S1) fun ds S2 => okO (opm a ds S2) else none := rfl
@[simp] theorem E_dTru : dTru fa env S = bindR (fa env S) fun a S1 => okT (truD a S1) S1 := rfl
@[simp] theorem E_dBl : dBl fa env S = bindR (fa env S) fun a S1 => okT (blOf a) S1 := rfl
@[simp] theorem E_dAnd : dAnd ga gb env S = bindR (ga env S) fun a S1 => if a = true then gb env S1 else some (.ok false, S1) := rfl
@[simp] theorem E_dOr : dOr ga gb env S = bindR (ga env S) fun a S1 => if a = true then some (.ok true, S1) else gb env S1 := rfl
@[simp] theorem E_dNot : dNot ga env S = bindR (ga env S) fun a S1 => some (.ok (!a), S1) := rfl
@[simp] theorem E_dAndV : dAndV fa fb env S = bindR (fa env S) fun a S1 => bindR (okT (truD a S1) S1) fun c S1 => if c = true then fb env S1 else some (.ok a, S1) := rfl
@[simp] theorem E_dOrV : dOrV fa fb env S = bindR (fa env S) fun a S1 => bindR (okT (truD a S1) S1) fun c S1 => if c = true then some (.ok a, S1) else fb env S1 := rfl
@[simp] theorem E_dNotV : dNotV fa env S = bindR (fa env S) fun a S1 => bindR (okT (truD a S1) S1) fun c S1 => some (.ok (.bl (!c)), S1) := rfl
@[simp] theorem E_dIf : dIf ga fa fb env S = bindR (ga env S) fun c S1 => if c = true then fa env S1 else fb env S1 := rfl
@[simp] theorem E_dTrue : dTrue env S = some (.ok true, S) := rfl
@[simp] theorem E_dCall : dCall m fs env S = bindR (fs env S) fun ds S1 => m ds S1 := rfl
@[simp] theorem E_dCallD (dd : List D) : dCallD m dd fs env S = bindR (fs env S) fun ds S1 => m (ds ++ dd) S1 := rfl
@[simp] theorem E_dCallK {fk : Ev → Sto → Ans (List D)} (n k : Nat) : dCallK m n k fs fk env S = bindR (fs env S) fun ds S1 => bindR (fk env S1) fun es S2 => if ds.length = n ∧ es.length = k then m (ds ++ es) S2 else none := rfl
@[simp] theorem E_dIsi (T : String) : dIsi T fa env S = bindR (fa env S) fun a S1 => match tyN a S1 with
  | some n => match kitB n T with
    | some b => some (.ok (.bl b), S1)
    | none => none
  | none => none := rfl
@[simp] theorem E_dSl (fl fh : Option (Ev → Sto → Ans D)) : dSl fa fl fh env S = bindR (fa env S) fun a S1 => bindR (dOpt fl env S1) fun lo S2 => bindR (dOpt fh env S2) fun hi S3 => okO (gSl a lo hi S3) := rfl
@[simp] theorem E_dOpt_none : dOpt none env S = some (.ok none, S) := rfl
@[simp] theorem E_dOpt_some : dOpt (some fa) env S = bindR (fa env S) fun d S1 => match d with
  | .int i => some (.ok (some i), S1)
  | _ => none := rfl
@[simp] theorem E_sNext : sNext env S = some (.nx, env, S) := rfl
@[simp] theorem E_sBreak : sBreak env S = some (.bk, env, S) := rfl
@[simp] theorem E_sCont : sCont env S = some (.ct, env, S) := rfl
@[simp] theorem E_sSeq : sSeq f g env S = match f env S with
  | some (.nx, env1, S1) => g env1 S1
  | x => x := rfl
@[simp] theorem E_sAsg (t : Tg) : sAsg t fa env S = bindS (fa env S) env fun d S1 => match t.put d env with
  | some env1 => some (.nx, env1, S1)
  | none => none := rfl
@[simp] theorem E_sSub {fe fo fi : Ev → Sto → Ans D} : sSub ops fe fo fi env S = bindS (fe env S) env fun d S1 => bindS (fo env S1) env fun o S2 => bindS (fi env S2) env fun i S3 => match ops o i d S3 with
  | some S4 => some (.nx, env, S4)
  | none => none := rfl
@[simp] theorem E_sAug (i : Nat) : sAug i op fa env S = match env[i]? with
  | some (some x) => bindS (fa env S) env fun y S1 => match op x y S1 with
    | some (z, S2) => some (.nx, env.set i (some z), S2)
    | none => none
  | _ => none := rfl
@[simp] theorem E_sAugS {gg gp : D → D → Sto → Option (D × Sto)} {fe fo fi : Ev → Sto → Ans D} : sAugS gg gp ops fo fi fe env S = bindS (fo env S) env fun o S1 => bindS (fi env S1) env fun i S2 => bindS (okO (gg o i S2)) env fun x S3 => bindS (fe env S3) env fun y S4 => bindS (okO (gp x y S4)) env fun z S5 => match ops o i z S5 with
  | some S6 => some (.nx, env, S6)
  | none => none := rfl
@[simp] theorem E_sExpr : sExpr fa env S = bindS (fa env S) env fun _ S1 => some (.nx, env, S1) := rfl
@[simp] theorem E_sRet : sRet fa env S = bindS (fa env S) env fun d S1 => some (.rt d, env, S1) := rfl
@[simp] theorem E_sRetN : sRetN env S = some (.rt .non, env, S) := rfl
@[simp] theorem E_sIf : sIf ga f g env S = bindS (ga env S) env fun c S1 => if c = true then f env S1 else g env S1 := rfl
@[simp] theorem E_sWhile (n : Nat) : sWhile n ga f env S = whileD ga f n env S := rfl
@[simp] theorem E_sFor {fw : Ev → Sto → Ans Wk} (t : Tg) : sFor fw t f env S = bindS (fw env S) env fun w S1 => forD w.ok t f w.items env S1 := rfl
@[simp] theorem E_wSeq : wSeq fa env S = bindR (fa env S) fun d S1 => match seqOf d S1 with
  | some ds => some (.ok ⟨fun S => seqOf d S = some ds, ds⟩, S1)
  | none => none := rfl
@[simp] theorem E_wRev : wRev fa env S = bindR (fa env S) fun d S1 => match seqOf d S1 with
  | some ds => some (.ok ⟨fun S => seqOf d S = some ds, ds.reverse⟩, S1)
  | none => none := rfl
@[simp] theorem E_wRange : wRange fs env S = bindR (fs env S) fun ds S1 => match ds with
  | [.int j] => if RgB j then some (.ok ⟨fun _ => True, rangeL 0 j.toNat⟩, S1) else none
  | [.int i, .int j] => if RgB i ∧ RgB j then some (.ok ⟨fun _ => True, rangeL i (j - i).toNat⟩, S1) else none
  | _ => none := rfl
@[simp] theorem E_wEnumA : wEnumA fs env S = bindR (fs env S) fun ds S1 => match ds with
  | [d] => match seqOf d S1 with
    | some xs => some (.ok ⟨fun S => seqOf d S = some xs, enumD xs⟩, S1)
    | none => none
  | _ => none := rfl
@[simp] theorem E_dLc {fw : Ev → Sto → Ans Wk} (t : Tg) (vs : List Nat) : dLc fw t ga fa vs env S = bindR (fw env S) fun w S1 => match lcD w.ok t ga fa (wipeE env vs) S1.length w.items (S1 ++ [.lst []]) with
  | some S2 => some (.ok (.ref S1.length), S2)
  | none => none := rfl
@[simp] theorem E_put_nm (i : Nat) (d : D) (env : Ev) : Tg.put (.nm i) d env = some (env.set i (some d)) := rfl
@[simp] theorem E_put_tp (l : List Tg) (ds : List D) (env : Ev) : Tg.put (.tp l) (.tup ds) env = Tg.puts l ds env := rfl
@[simp] theorem E_puts_nil (env : Ev) : Tg.puts [] [] env = some env := rfl
@[simp] theorem E_puts_cons (t : Tg) (ts : List Tg) (d : D) (ds : List D) (env : Ev) : Tg.puts (t :: ts) (d :: ds) env = match Tg.put t d env with
  | some env1 => Tg.puts ts ds env1
  | none => none := rfl
@[simp] theorem E_runB (n k : Nat) (ds : List D) : runB n k f ds S = if ds.length = n then match f (ds.map some ++ List.replicate (k - n) none) S with
    | some (.nx, _, S') => some (.ok .non, S')
    | some (.rt d, _, S') => some (.ok d, S')
    | some (.ex e, _, S') => some (.ex e, S')
    | _ => none
  else none := rfl
@[simp] theorem E_wipeE_nil (env : Ev) : wipeE env [] = env := rfl
@[simp] theorem E_wipeE_cons (env : Ev) (v : Nat) (vs : List Nat) : wipeE env (v :: vs) = (wipeE env vs).set v none := rfl
@[simp] theorem E_gAdd_int (i j : Int) : gAdd (.int i) (.int j) S = some (.int (i + j), S) := rfl
@[simp] theorem E_gSub_int (i j : Int) : gSub (.int i) (.int j) S = some (.int (i - j), S) := rfl
@[simp] theorem E_gIAdd_int (i j : Int) : gIAdd (.int i) (.int j) S = some (.int (i + j), S) := rfl
@[simp] theorem E_gNeg_int (i : Int) : gNeg (.int i) S = some (.int (-i), S) := rfl
@[simp] theorem E_gMulR (i j : Int) (h1 : -(2 ^ 64) < j) (h2 : j < 2 ^ 64) : gMul (.int i) (.int j) S = some (.int (i * j), S) := if_pos (.inl (.inr ⟨h1, h2⟩))
theorem E_gMulW (i j : Int) (h : CMulW i j) : gMul (.int i) (.int j) S = some (.int (i * j), S) := if_pos (.inr (.inl h))
theorem E_gMulI (i j : Int) (h : IntMulOk i j) : gMul (.int i) (.int j) S = some (.int (i * j), S) := if_pos (.inr (.inr h))
@[simp] theorem E_gMod (i j : Int) (h : 0 < j) : gMod (.int i) (.int j) S = some (.int (i % j), S) := if_pos h
theorem E_gFdiv (i j : Int) (h : CDivW i j) : gFdiv (.int i) (.int j) S = some (.int (i / j), S) := if_pos h
@[simp] theorem E_gPow (i j : Int) (h0 : 0 ≤ j) (h1 : j ≤ 1000000) (h2 : i.natAbs < 2 ^ 64) : gPow (.int i) (.int j) S = some (.int (i ^ j.toNat), S) := if_pos ⟨h0, h1, h2⟩
@[simp] theorem E_gEq (a b : D) : gEq a b S = blS (eqB a b S) S := rfl
@[simp] theorem E_gNe (a b : D) : gNe a b S = blS ((eqB a b S).map (!·)) S := rfl
@[simp] theorem E_eqB_int (i j : Int) : eqB (.int i) (.int j) S = some (decide (i = j)) := rfl
@[simp] theorem E_eqB_str (i j : Str) : eqB (.str i) (.str j) S = some (decide (i = j)) := rfl
@[simp] theorem E_eqB_bl (i j : Bool) : eqB (.bl i) (.bl j) S = some (decide (i = j)) := rfl
@[simp] theorem E_blS (b : Bool) : blS (some b) S = some (.bl b, S) := rfl
@[simp] theorem E_blS0 : blS none S = none := rfl
@[simp] theorem E_blOf (b : Bool) : blOf (.bl b) = some b := rfl
@[simp] theorem E_gLt_int (i j : Int) : gLt (.int i) (.int j) S = some (.bl (decide (i < j)), S) := rfl
@[simp] theorem E_gLe_int (i j : Int) : gLe (.int i) (.int j) S = some (.bl (decide (i ≤ j)), S) := rfl
@[simp] theorem E_gGt_int (i j : Int) : gGt (.int i) (.int j) S = some (.bl (decide (j < i)), S) := rfl
@[simp] theorem E_gGe_int (i j : Int) : gGe (.int i) (.int j) S = some (.bl (decide (j ≤ i)), S) := rfl
@[simp] theorem E_gIx_ref (n : Nat) (i : Int) : gIx (.ref n) (.int i) S = match seqOf (.ref n) S with
    | some ds => match atI ds i with
      | some d => some (d, S)
      | none => none
    | none => none := rfl
@[simp] theorem E_gIx_tup (ds : List D) (i : Int) : gIx (.tup ds) (.int i) S = match atI ds i with
      | some d => some (d, S)
      | none => none := rfl
@[simp] theorem E_gIxL (n : Nat) (i : Int) : gIxL (.ref n) (.int i) S = match seqOf (.ref n) S with
    | some ds => match atI ds i with
      | some d => if 0 ≤ i then some (d, S) else none
      | none => none
    | none => none := rfl
@[simp] theorem E_gSetL (n : Nat) (k : Int) (d : D) : gSetL (.ref n) (.int k) d S = match S[n]? with
    | some (.lst ds) => match ixN ds.length k with
      | some j => some (S.set n (.lst (ds.set j d)))
      | none => none
    | _ => none := rfl
theorem E_seq_ref (n : Nat) : seqOf (.ref n) S = match S[n]? with
    | some (.lst ds) => some ds
    | some (.rol ds) => some ds
    | _ => none := rfl
@[simp] theorem E_cInt (i : Int) : cInt [.int i] S = some (.int i, S) := rfl
@[simp] theorem E_cIntB (b : Bool) : cInt [.bl b] S = some (.int (if b then 1 else 0), S) := rfl
@[simp] theorem E_cAbs (i : Int) : cAbs [.int i] S = some (.int (if i < 0 then -i else i), S) := rfl
@[simp] theorem E_cMax2 (i j : Int) : cMax2 [.int i, .int j] S = some (.int (if j > i then j else i), S) := rfl
@[simp] theorem E_cMin2 (i j : Int) : cMin2 [.int i, .int j] S = some (.int (if j < i then j else i), S) := rfl
@[simp] theorem E_cLen_ref (n : Nat) : cLen [.ref n] S = match seqOf (.ref n) S with
    | some ds => some (.int ds.length, S)
    | none => none := rfl
@[simp] theorem E_cLen_tup (ds : List D) : cLen [.tup ds] S = some (.int ds.length, S) := rfl
@[simp] theorem E_cList (d : D) : cList [d] S = match seqOf d S with
    | some ds => some (.ref S.length, S ++ [.lst ds])
    | none => none := rfl
@[simp] theorem E_cTuple (d : D) : cTuple [d] S = match seqOf d S with
    | some ds => some (.tup ds, S)
    | none => none := rfl
@[simp] theorem E_mAppend (n : Nat) (d : D) : mAppend (.ref n) [d] S = match S[n]? with
    | some (.lst ds) => if ds.length < sizeLine then some (.non, S.set n (.lst (ds ++ [d]))) else none
    | _ => none := rfl
@[simp] theorem E_mPop (n : Nat) : mPop (.ref n) [] S = match S[n]? with
    | some (.lst ds) => match ds[ds.length - 1]? with
      | some d => some (d, S.set n (.lst ds.dropLast))
      | none => none
    | _ => none := rfl
@[simp] theorem E_tyM_list (n : Nat) : tyM "list" (.ref n) S = (seqOf (.ref n) S).isSome := rfl
@[simp] theorem E_gTup (ds : List D) (h : ds.length ≤ sizeLine) : gTup ds S = some (.tup ds, S) := if_pos h
@[simp] theorem E_gLst (ds : List D) (h : ds.length ≤ sizeLine) : gLst ds S = some (.ref S.length, S ++ [.lst ds]) := if_pos h
@[simp] theorem E_truD_bl (b : Bool) : truD (.bl b) S = some b := rfl
@[simp] theorem E_truD_int (i : Int) : truD (.int i) S = some (i != 0) := rfl
@[simp] theorem E_truD_ref (n : Nat) : truD (.ref n) S = (seqOf (.ref n) S).map fun ds => !ds.isEmpty := rfl
@[simp] theorem E_truD_tup (ds : List D) : truD (.tup ds) S = some (!ds.isEmpty) := rfl
theorem line_big : (1000000 : Nat) ≤ sizeLine := by decide
@[simp] theorem line0 : 0 ≤ sizeLine := Nat.zero_le _
end
theorem atI_of {α : Type} {xs : List α} {i : Int} {k : Nat} {x : α} (hi : i = k) (h : xs[k]? = some x) : atI xs i = some x := by
  subst hi
  exact atI_nat h
theorem ixN_of {n : Nat} {i : Int} {k : Nat} (hi : i = k) (h : k < n) : ixN n i = some k := by
  subst hi
  unfold ixN
  rw [if_pos (by omega), if_pos (by omega)]
  simp
/-! kinds of values, for isinstance -/
@[simp] theorem kit_ii : kitB "int" "int" = some true := by decide +kernel
@[simp] theorem kit_ib : kitB "int" "bool" = some false := by decide +kernel
@[simp] theorem kit_tt : kitB "tuple" "tuple" = some true := by decide +kernel
@[simp] theorem kit_tb : kitB "tuple" "bool" = some false := by decide +kernel
@[simp] theorem kit_ss : kitB "str" "str" = some true := by decide +kernel
@[simp] theorem kit_ns : kitB "NoneType" "str" = some false := by decide +kernel
@[simp] theorem kit_ts : kitB "tuple" "str" = some false := by decide +kernel
@[simp] theorem kit_bb : kitB "bool" "bool" = some true := by decide +kernel
@[simp] theorem kit_nt : kitB "NoneType" "tuple" = some false := by decide +kernel
@[simp] theorem kit_st : kitB "str" "tuple" = some false := by decide +kernel
@[simp] theorem E_tyN_int (i : Int) : tyN (.int i) S = some "int" := rfl
@[simp] theorem E_tyN_tup (l : List D) : tyN (.tup l) S = some "tuple" := rfl
@[simp] theorem E_tyN_bl (i : Bool) : tyN (.bl i) S = some "bool" := rfl
@[simp] theorem E_tyN_str (i : Str) : tyN (.str i) S = some "str" := rfl
@[simp] theorem E_tyN_non : tyN .non S = some "NoneType" := rfl
/-! locations -/
theorem get_app (S T : Sto) (k : Nat) : (S ++ T)[S.length + k]? = T[k]? := by
  rw [List.getElem?_append_right (Nat.le_add_right _ _), Nat.add_sub_cancel_left]
@[simp] theorem get_app0 (S T : Sto) : (S ++ T)[S.length]? = T[0]? := get_app S T 0
@[simp] theorem get_last (S : Sto) (o : O) : (S ++ [o])[S.length]? = some o := get_app S [o] 0
theorem get_old {S T : Sto} {n : Nat} {o : O} (h : S[n]? = some o) : (S ++ T)[n]? = some o := by
  rw [List.getElem?_append_left (List.getElem?_eq_some_iff.mp h).1]
  exact h
@[simp] theorem set_last (S : Sto) (o u : O) : (S ++ [o]).set S.length u = S ++ [u] := by
  rw [List.set_append_right _ _ (Nat.le_refl _), Nat.sub_self]
  rfl
theorem seq_old {S T : Sto} {d : D} {ds : List D} (h : seqOf d S = some ds) : seqOf d (S ++ T) = some ds := by
  cases d with
  | ref n =>
    rcases seq_ref h with h | h
    · simp [seqOf, get_old h]
    · simp [seqOf, get_old h]
  | tup _ => exact h
  | _ => cases h
theorem seq_lst {S : Sto} {n : Nat} {ds : List D} (h : S[n]? = some (.lst ds)) : seqOf (.ref n) S = some ds := by simp [seqOf, h]
@[simp] theorem seq_tup (ds : List D) (S : Sto) : seqOf (.tup ds) S = some ds := rfl
@[simp] theorem seq_last (S : Sto) (ds : List D) : seqOf (.ref S.length) (S ++ [.lst ds]) = some ds := by simp [seqOf]
theorem lst_lt {S : Sto} {n : Nat} {o : O} (h : S[n]? = some o) : n < S.length := (List.getElem?_eq_some_iff.mp h).1

/-! loops -/
theorem whileD_rule {fc : Ev → Sto → Ans Bool} {fb : Ev → Sto → AnsS} (Inv : Ev → Sto → Prop) (mu : Ev → Sto → Nat) (Post : Ev → Sto → Prop)
    (step : ∀ env S, Inv env S → (∃ S1, fc env S = some (.ok false, S1) ∧ Post env S1) ∨ ∃ S1 env2 S2, fc env S = some (.ok true, S1) ∧ (fb env S1 = some (.nx, env2, S2) ∨ fb env S1 = some (.ct, env2, S2)) ∧ Inv env2 S2 ∧ mu env2 S2 < mu env S) :
    ∀ (n : Nat) (env : Ev) (S : Sto), Inv env S → mu env S < n → ∃ env' S', whileD fc fb n env S = some (.nx, env', S') ∧ Post env' S'
  | 0, _, _, _, h => absurd h (Nat.not_lt_zero _)
  | n + 1, env, S, hI, hm => by
    unfold whileD
    rcases step env S hI with ⟨S1, h1, h2⟩ | ⟨S1, env2, S2, h1, h2, h3, h4⟩
    · rw [h1]
      exact ⟨env, S1, rfl, h2⟩
    · obtain ⟨e', S', q1, q2⟩ := whileD_rule Inv mu Post step n env2 S2 h3 (by omega)
      refine ⟨e', S', ?_, q2⟩
      rw [h1, bindS_okE, if_pos rfl]
      rcases h2 with h2 | h2
      · rw [h2]
        exact q1
      · rw [h2]
        exact q1
theorem forD_rule {ok : Sto → Prop} {t : Tg} {fb : Ev → Sto → AnsS} (Inv : Nat → Ev → Sto → Prop) (Ret : D → Ev → Sto → Prop) : ∀ (items : List D) (i : Nat) (env : Ev) (S : Sto) (hok : ∀ j env S, j ≤ i + items.length → Inv j env S → ok S) (hI : Inv i env S)
    (step : ∀ j x env S, items[j]? = some x → Inv (i + j) env S → ∃ env1 env2 S2, t.put x env = some env1 ∧ ((fb env1 S = some (.nx, env2, S2) ∧ Inv (i + j + 1) env2 S2) ∨ (fb env1 S = some (.ct, env2, S2) ∧ Inv (i + j + 1) env2 S2) ∨ ∃ d, fb env1 S = some (.rt d, env2, S2) ∧ Ret d env2 S2)),
    (∃ env' S', forD ok t fb items env S = some (.nx, env', S') ∧ Inv (i + items.length) env' S') ∨ ∃ d env' S', forD ok t fb items env S = some (.rt d, env', S') ∧ Ret d env' S'
  | [], i, env, S, hok, hI, _ => .inl ⟨env, S, by unfold forD; rw [if_pos (hok i env S (by simp) hI)], hI⟩
  | x :: xs, i, env, S, hok, hI, step => by
    unfold forD
    rw [if_pos (hok i env S (by omega) hI)]
    obtain ⟨env1, env2, S2, h1, h2⟩ := step 0 x env S rfl hI
    rw [h1]
    have ih := fun hI2 => forD_rule Inv Ret xs (i + 1) env2 S2 (fun j env S hj h => hok j env S (by simp only [List.length_cons]; omega) h) hI2 (fun j y env S hy hj => by
      have q := step (j + 1) y env S (by simpa using hy) (by rw [show i + (j + 1) = i + 1 + j by omega]; exact hj)
      rw [show i + (j + 1) + 1 = i + 1 + j + 1 by omega] at q
      exact q)
    rcases h2 with ⟨h2, h3⟩ | ⟨h2, h3⟩ | ⟨d, h2, h3⟩
    · simp only [h2]
      have q := ih h3
      rw [show i + 1 + xs.length = i + (x :: xs).length by simp only [List.length_cons]; omega] at q
      exact q
    · simp only [h2]
      have q := ih h3
      rw [show i + 1 + xs.length = i + (x :: xs).length by simp only [List.length_cons]; omega] at q
      exact q
    · simp only [h2]
      exact .inr ⟨d, env2, S2, rfl, h3⟩
/-- a loop that is not left early -/
theorem forD_all {ok : Sto → Prop} {t : Tg} {fb : Ev → Sto → AnsS} (Inv : Nat → Ev → Sto → Prop) (items : List D) (env : Ev) (S : Sto) (hok : ∀ j env S, j ≤ items.length → Inv j env S → ok S) (hI : Inv 0 env S)
    (step : ∀ j x env S, items[j]? = some x → Inv j env S → ∃ env1 env2 S2, t.put x env = some env1 ∧ fb env1 S = some (.nx, env2, S2) ∧ Inv (j + 1) env2 S2) :
    ∃ env' S', forD ok t fb items env S = some (.nx, env', S') ∧ Inv items.length env' S' := by
  rcases forD_rule (fb := fb) Inv (fun _ _ _ => False) items 0 env S (by simpa using hok) hI (fun j x env S hx hj => by
    rw [Nat.zero_add] at hj ⊢
    obtain ⟨e1, e2, S2, a, b, c⟩ := step j x env S hx hj
    exact ⟨e1, e2, S2, a, .inl ⟨b, c⟩⟩) with h | ⟨_, _, _, _, h⟩
  · simpa using h
  · exact h.elim
theorem lcD_rule {ok : Sto → Prop} {t : Tg} {gt : Ev → Sto → Ans Bool} {fe : Ev → Sto → Ans D} {env : Ev} {n : Nat} (Inv : Nat → List D → Sto → Prop) : ∀ (items : List D) (i : Nat) (acc : List D) (S : Sto) (hok : ∀ j acc S, Inv j acc S → ok S) (hI : Inv i acc S)
    (step : ∀ j x acc S, items[j]? = some x → Inv (i + j) acc S → ∃ env1, t.put x env = some env1 ∧ ((∃ S1, gt env1 S = some (.ok false, S1) ∧ Inv (i + j + 1) acc S1) ∨
      ∃ S1 y S2, gt env1 S = some (.ok true, S1) ∧ fe env1 S1 = some (.ok y, S2) ∧ S2[n]? = some (.lst acc) ∧ acc.length < sizeLine ∧ Inv (i + j + 1) (acc ++ [y]) (S2.set n (.lst (acc ++ [y]))))),
    ∃ acc' S', lcD ok t gt fe env n items S = some S' ∧ Inv (i + items.length) acc' S'
  | [], i, acc, S, hok, hI, _ => ⟨acc, S, by unfold lcD; rw [if_pos (hok i acc S hI)], hI⟩
  | x :: xs, i, acc, S, hok, hI, step => by
    unfold lcD
    rw [if_pos (hok i acc S hI)]
    obtain ⟨env1, h1, h2⟩ := step 0 x acc S rfl hI
    rw [h1]
    have ih := fun acc2 S2 hI2 => lcD_rule (n := n) Inv xs (i + 1) acc2 S2 hok hI2 (fun j y acc S hy hj => by
      have q := step (j + 1) y acc S (by simpa using hy) (by rw [show i + (j + 1) = i + 1 + j by omega]; exact hj)
      rw [show i + (j + 1) + 1 = i + 1 + j + 1 by omega] at q
      exact q)
    have el : i + 1 + xs.length = i + (x :: xs).length := by simp only [List.length_cons]; omega
    rcases h2 with ⟨S1, h2, h3⟩ | ⟨S1, y, S2, h2, h3, h4, h5, h6⟩
    · simp only [h2]
      have q := ih acc S1 h3
      rw [el] at q
      exact q
    · simp only [h2, h3, h4]
      rw [if_pos h5]
      have q := ih _ _ h6
      rw [el] at q
      exact q
/-- a comprehension whose parts change nothing -/
theorem lcD_pure {ok : Sto → Prop} {t : Tg} {gt : Ev → Sto → Ans Bool} {fe : Ev → Sto → Ans D} {env : Ev} {S : Sto} (items : List D) (b : D → Bool) (y : D → D) (hok : ∀ acc, ok (S ++ [.lst acc]))
    (step : ∀ x acc, x ∈ items → ∃ env1, t.put x env = some env1 ∧ gt env1 (S ++ [.lst acc]) = some (.ok (b x), S ++ [.lst acc]) ∧ (b x = true → fe env1 (S ++ [.lst acc]) = some (.ok (y x), S ++ [.lst acc]))) (hz : items.length ≤ sizeLine) :
    lcD ok t gt fe env S.length items (S ++ [.lst []]) = some (S ++ [.lst ((items.filter b).map y)]) := by
  obtain ⟨acc', S', h1, h2, h3⟩ := lcD_rule (t := t) (gt := gt) (fe := fe) (env := env) (n := S.length) (fun i acc S' => S' = S ++ [.lst acc] ∧ acc = ((items.take i).filter b).map y) items 0 [] (S ++ [.lst []]) (fun _ acc _ h => by rw [h.1]; exact hok acc) ⟨rfl, by simp⟩ (fun j x acc S2 hx hj => by
    rw [Nat.zero_add] at hj ⊢
    obtain ⟨rfl, hacc⟩ := hj
    obtain ⟨env1, q1, q2, q3⟩ := step x acc (List.mem_of_getElem? hx)
    have tk : items.take (j + 1) = items.take j ++ [x] := by rw [List.take_add_one, hx]; rfl
    refine ⟨env1, q1, ?_⟩
    cases hb : b x with
    | false =>
      rw [hb] at q2
      refine .inl ⟨_, q2, rfl, ?_⟩
      rw [tk, List.filter_append, List.filter_cons, hb, hacc]
      simp
    | true =>
      rw [hb] at q2
      have hlen : acc.length < sizeLine := by
        rw [hacc, List.length_map]
        have a1 := List.length_filter_le b (items.take j)
        have a2 : (items.take j).length ≤ j := by rw [List.length_take]; omega
        have a3 : j < items.length := (List.getElem?_eq_some_iff.mp hx).1
        omega
      refine .inr ⟨_, y x, _, q2, q3 hb, get_last _ _, hlen, set_last _ _ _, ?_⟩
      rw [tk, List.filter_append, List.filter_cons, hb, List.map_append, ← hacc]
      simp)
  rw [h1, h2, h3]
  simp
/-- a comprehension with no condition whose parts change nothing, by places -/
theorem lcD_ix {ok : Sto → Prop} {t : Tg} {gt : Ev → Sto → Ans Bool} {fe : Ev → Sto → Ans D} {env : Ev} {S : Sto} (items : List D) (y : Nat → D) (hok : ∀ acc, ok (S ++ [.lst acc]))
    (step : ∀ j x, items[j]? = some x → ∃ env1, t.put x env = some env1 ∧ gt env1 (S ++ [.lst ((List.range j).map y)]) = some (.ok true, S ++ [.lst ((List.range j).map y)]) ∧ fe env1 (S ++ [.lst ((List.range j).map y)]) = some (.ok (y j), S ++ [.lst ((List.range j).map y)])) (hz : items.length ≤ sizeLine) :
    lcD ok t gt fe env S.length items (S ++ [.lst []]) = some (S ++ [.lst ((List.range items.length).map y)]) := by
  obtain ⟨acc', S', h1, h2, h3⟩ := lcD_rule (t := t) (gt := gt) (fe := fe) (env := env) (n := S.length) (fun i acc S' => S' = S ++ [.lst acc] ∧ acc = (List.range i).map y) items 0 [] (S ++ [.lst []]) (fun _ acc _ h => by rw [h.1]; exact hok acc) ⟨rfl, by simp⟩ (fun j x acc S2 hx hj => by
    rw [Nat.zero_add] at hj ⊢
    obtain ⟨rfl, rfl⟩ := hj
    obtain ⟨env1, q1, q2, q3⟩ := step j x hx
    have a3 : j < items.length := (List.getElem?_eq_some_iff.mp hx).1
    refine ⟨env1, q1, .inr ⟨_, y j, _, q2, q3, get_last _ _, by simp; omega, set_last _ _ _, ?_⟩⟩
    rw [List.range_succ, List.map_append]
    rfl)
  rw [h1, h2, h3, Nat.zero_add]
theorem rangeL0 (n : Nat) : rangeL 0 n = (List.range n).map fun (k : Nat) => D.int (k : Int) := by simp [rangeL]
theorem rangeL_at {n j : Nat} {x : D} (h : (rangeL 0 n)[j]? = some x) : j < n ∧ x = .int (j : Int) := by
  obtain ⟨a, b⟩ := rangeL_get h
  exact ⟨a, by rw [b, Int.zero_add]⟩
/-! what a call leaves -/
theorem gc_same {m : Mir} {ds : List D} {S S' : Sto} {r : R D} (h : m ds S = some (r, S')) (hl : S'.length = S.length) : gc m ds S = some (r, S') := by
  unfold gc
  rw [h]
  simp only
  split
  · rw [← hl, List.take_length]
  · rfl
theorem gc_keep {m : Mir} {ds : List D} {S S' : Sto} {r : R D} (h : m ds S = some (r, S')) (hr : r.clB S.length = false) : gc m ds S = some (r, S') := by
  unfold gc
  rw [h]
  simp only
  rw [if_neg]
  rintro ⟨_, h2, _⟩
  rw [hr] at h2
  cases h2
/-- all that was made is dropped, the store is as it was -/
theorem gc_pure {m : Mir} {ds : List D} {S T : Sto} {r : R D} (hc : ClS S) (h : m ds S = some (r, S ++ T)) (hr : r.clB S.length = true) : gc m ds S = some (r, S) := gc_eq h rfl hc hr
theorem gc_set {m : Mir} {ds : List D} {S T : Sto} {r : R D} {t : Nat} {o : O} (hc : ClS (S.set t o)) (h : m ds S = some (r, S.set t o ++ T)) (hr : r.clB S.length = true) : gc m ds S = some (r, S.set t o) := gc_eq h (List.length_set ..) hc hr
@[simp] theorem clB_int (n : Nat) (i : Int) : D.clB n (.int i) = true := rfl
@[simp] theorem clB_str (n : Nat) (i : Str) : D.clB n (.str i) = true := rfl
@[simp] theorem clB_bl (n : Nat) (i : Bool) : D.clB n (.bl i) = true := rfl
@[simp] theorem clB_non (n : Nat) : D.clB n .non = true := rfl
@[simp] theorem clB_ref (n k : Nat) : D.clB n (.ref k) = decide (k < n) := rfl
@[simp] theorem clB_tup (n : Nat) (l : List D) : D.clB n (.tup l) = D.clBs n l := rfl
@[simp] theorem clBs_nil (n : Nat) : D.clBs n [] = true := rfl
@[simp] theorem clBs_cons (n : Nat) (d : D) (l : List D) : D.clBs n (d :: l) = (D.clB n d && D.clBs n l) := rfl
@[simp] theorem clBs_ints (n : Nat) : ∀ is : List Int, D.clBs n (is.map D.int) = true
  | [] => rfl
  | i :: is => by simp [clBs_ints n is]
@[simp] theorem clBs_strs (n : Nat) : ∀ is : List Str, D.clBs n (is.map D.str) = true
  | [] => rfl
  | i :: is => by simp [clBs_strs n is]
@[simp] theorem clR_ok (n : Nat) (d : D) : R.clB n (.ok d) = D.clB n d := rfl
theorem clBs_iff {n : Nat} : ∀ {l : List D}, D.clBs n l = true ↔ ∀ d ∈ l, D.clB n d = true
  | [] => by simp
  | d :: l => by simp [clBs_iff (l := l)]
theorem clB_le {n k : Nat} (h : n ≤ k) : ∀ d : D, D.clB n d = true → D.clB k d = true := by
  have key : (∀ d : D, D.clB n d = true → D.clB k d = true) ∧ (∀ l : List D, D.clBs n l = true → D.clBs k l = true) := by
    refine ⟨fun d => D.rec (motive_1 := fun d => D.clB n d = true → D.clB k d = true) (motive_2 := fun l => D.clBs n l = true → D.clBs k l = true) (fun _ => rfl) (fun _ _ => rfl) (fun _ _ => rfl) (fun _ _ => rfl) (fun l ih q => ih q) (fun m q => decide_eq_true (Nat.lt_of_lt_of_le (of_decide_eq_true q) h)) (fun _ => rfl) (fun d l i1 i2 q => by
      simp only [clBs_cons, Bool.and_eq_true] at q ⊢
      exact ⟨i1 q.1, i2 q.2⟩) d, fun l => ?_⟩
    induction l with
    | nil => exact fun _ => rfl
    | cons d l ih =>
      intro q
      simp only [clBs_cons, Bool.and_eq_true] at q ⊢
      exact ⟨D.rec (motive_1 := fun d => D.clB n d = true → D.clB k d = true) (motive_2 := fun l => D.clBs n l = true → D.clBs k l = true) (fun _ => rfl) (fun _ _ => rfl) (fun _ _ => rfl) (fun _ _ => rfl) (fun l ih q => ih q) (fun m q => decide_eq_true (Nat.lt_of_lt_of_le (of_decide_eq_true q) h)) (fun _ => rfl) (fun d l i1 i2 q => by
        simp only [clBs_cons, Bool.and_eq_true] at q ⊢
        exact ⟨i1 q.1, i2 q.2⟩) d q.1, ih q.2⟩
  exact key.1
theorem clBs_le {n k : Nat} (h : n ≤ k) {l : List D} (q : D.clBs n l = true) : D.clBs k l = true := clBs_iff.mpr fun d hd => clB_le h d (clBs_iff.mp q d hd)
theorem ClS.set {S : Sto} {t : Nat} {o : O} (h : ClS S) (c : D.clBs S.length o.items = true) : ClS (S.set t o) := fun u hu => by
  rw [List.length_set]
  rcases List.mem_or_eq_of_mem_set hu with hu | rfl
  · exact h u hu
  · exact c
theorem ClS.app {S T : Sto} (h : ClS S) (c : ∀ o ∈ T, D.clBs (S.length + T.length) o.items = true) : ClS (S ++ T) := fun u hu => by
  rw [List.length_append]
  rcases List.mem_append.mp hu with hu | hu
  · exact clBs_le (Nat.le_add_right _ _) (h u hu)
  · exact c u hu
/-! == of plain data -/
@[simp] theorem pys_ints : ∀ is : List Int, D.pys (is.map D.int) = some (is.map PyData.int)
  | [] => rfl
  | i :: is => by simp [D.pys, D.py, pys_ints is]
theorem eqvAll_ints : ∀ a b : List Int, PyData.eqvAll (a.map PyData.int) (b.map PyData.int) = decide (a = b)
  | [], [] => by simp [PyData.eqvAll]
  | [], _ :: _ => by simp [PyData.eqvAll]
  | _ :: _, [] => by simp [PyData.eqvAll]
  | x :: a, y :: b => by
    simp only [List.map_cons, PyData.eqvAll, PyData.eqv, eqvAll_ints a b]
    rw [Bool.eq_iff_iff]
    simp
theorem lay_ints : ∀ a : List Int, PyData.canLayAll0 (a.map PyData.int) = true
  | [] => by simp [PyData.canLayAll0]
  | _ :: a => by simp [PyData.canLayAll0, PyData.canLay0, lay_ints a]
theorem depth_ints : ∀ a : List Int, PyData.depthAll (a.map PyData.int) = 0
  | [] => by simp [PyData.depthAll]
  | _ :: a => by simp [PyData.depthAll, PyData.depth, depth_ints a]
theorem shaped_ints (a : List Int) : SeqAt.shaped (.tuple (a.map PyData.int)) = true := by
  simp [SeqAt.shaped, PyData.canLay0, PyData.depth, lay_ints, depth_ints]
@[simp] theorem eqB_ints (a b : List Int) (S : Sto) : eqB (.tup (a.map D.int)) (.tup (b.map D.int)) S = some (decide (a = b)) := by
  simp [eqB, deepEq, toPy, D.py, shaped_ints, PyData.eqv, eqvAll_ints]
/-! slices -/
@[simp] theorem cutD_hi (xs : List D) (k : Nat) : cutD xs none (some (k : Int)) = xs.take k := by
  unfold cutD HT.sIx
  simp only [Nat.sub_zero, List.drop_zero]
  rw [if_neg (by omega), Int.toNat_natCast]
  by_cases h : k ≤ xs.length
  · rw [Nat.min_eq_left h]
  · rw [Nat.min_eq_right (by omega), List.take_length, List.take_of_length_le (by omega)]
@[simp] theorem E_gSl_tup (ds : List D) (lo hi : Option Int) (S : Sto) : gSl (.tup ds) lo hi S = some (.tup (cutD ds lo hi), S) := rfl
@[simp] theorem E_gSl_ref (n : Nat) (lo hi : Option Int) (S : Sto) : gSl (.ref n) lo hi S = match seqOf (.ref n) S with
    | some ds => some (.ref S.length, S ++ [.lst (cutD ds lo hi)])
    | none => none := rfl
@[simp] theorem rangeL_len (lo : Int) (n : Nat) : (rangeL lo n).length = n := rangeL_length
end
end DL
namespace LW
open PySem PySem.Spec PyProof.Rows L2 RT RZ DL
def topS (i : Nat) : Stmt := PySem.Challenge.pw_migraproof_k00_sample_and_spare_texts.main.body.getD i (.Pass ⟨0, 0, 0, 0⟩)
abbrev s_numbered_texts : Stmt := topS 1
abbrev N_numbered_texts : List Str := ["letter", "many", "but", "found", "number", "text"]
theorem sc_numbered_texts : FnScope N_numbered_texts ["letter", "many", "but"] (defScope s_numbered_texts) := ⟨rfl, rfl, rfl, by decide +kernel, rfl, by decide +kernel, by decide +kernel⟩
abbrev s_sample_texts : Stmt := topS 2
abbrev N_sample_texts : List Str := ["many", "but"]
theorem sc_sample_texts : FnScope N_sample_texts ["many", "but"] (defScope s_sample_texts) := ⟨rfl, rfl, rfl, by decide +kernel, rfl, by decide +kernel, by decide +kernel⟩
abbrev s_spare_texts : Stmt := topS 3
abbrev N_spare_texts : List Str := ["many", "but"]
theorem sc_spare_texts : FnScope N_spare_texts ["many", "but"] (defScope s_spare_texts) := ⟨rfl, rfl, rfl, by decide +kernel, rfl, by decide +kernel, by decide +kernel⟩
abbrev s__law_tape : Stmt := topS 5
abbrev N__law_tape : List Str := ["_law_script", "_law_total", "_law_cell"]
theorem sc__law_tape : FnScope N__law_tape ["_law_script"] (defScope s__law_tape) := ⟨rfl, rfl, rfl, by decide +kernel, rfl, by decide +kernel, by decide +kernel⟩
abbrev s__law_draw : Stmt := topS 6
abbrev N__law_draw : List Str := ["_law_tape_here", "_law_many", "_law_place", "_law_number"]
theorem sc__law_draw : FnScope N__law_draw ["_law_tape_here", "_law_many"] (defScope s__law_draw) := ⟨rfl, rfl, rfl, by decide +kernel, rfl, by decide +kernel, by decide +kernel⟩
abbrev s__law_text : Stmt := topS 7
abbrev N__law_text : List Str := ["_law_tape_here", "_law_marks", "_law_choice", "_law_number", "_law_length", "_law_place", "_law_first_here"]
theorem sc__law_text : FnScope N__law_text ["_law_tape_here"] (defScope s__law_text) := ⟨rfl, rfl, rfl, by decide +kernel, rfl, by decide +kernel, by decide +kernel⟩
abbrev s__law_known : Stmt := topS 8
abbrev N__law_known : List Str := ["_law_tape_here", "_law_most", "_law_found", "_law_k", "_law_number", "_law_text_here"]
theorem sc__law_known : FnScope N__law_known ["_law_tape_here", "_law_most"] (defScope s__law_known) := ⟨rfl, rfl, rfl, by decide +kernel, rfl, by decide +kernel, by decide +kernel⟩
abbrev s__law_first : Stmt := topS 9
abbrev N__law_first : List Str := ["_law_letter", "_law_many", "_law_constants", "_law_found", "_law_k", "_law_text_here"]
theorem sc__law_first : FnScope N__law_first ["_law_letter", "_law_many", "_law_constants"] (defScope s__law_first) := ⟨rfl, rfl, rfl, by decide +kernel, rfl, by decide +kernel, by decide +kernel⟩
abbrev s_law : Stmt := topS 10
abbrev N_law : List Str := ["_law_script", "_law_tape_here", "_law_many", "_law_constants"]
theorem sc_law : FnScope N_law ["_law_script"] (defScope s_law) := ⟨rfl, rfl, rfl, by decide +kernel, rfl, by decide +kernel, by decide +kernel⟩
noncomputable def m_numbered_texts : Ev → Sto → AnsS :=
    (sSeq (sAsg (.nm 3) (dCB gLst dNil))
    (sSeq (sAsg (.nm 4) (dC (.int 0)))
    (sSeq (sWhile fuel (dBl (dOp gLt (dCB cLen (dCons (dVar 3) dNil)) (dVar 1))) (sSeq (sAug 4 gIAdd (dC (.int 1)))
    (sSeq (sAsg (.nm 5) (dOp gAdd (dVar 0) (dCB cStr (dCons (dVar 4) dNil))))
    (sIf (dBl (dOp gNotIn (dVar 5) (dVar 2))) (sExpr (dM "list" mAppend (dVar 3) (dCons (dVar 5) dNil))) sNext))))
    (sRet (dCB cTuple (dCons (dVar 3) dNil))))))
noncomputable abbrev r_numbered_texts : Mir := runB 3 6 (m_numbered_texts)
noncomputable def m_sample_texts (f_numbered_texts : Mir) : Ev → Sto → AnsS :=
    (sRet (dCall f_numbered_texts (dCons (dC (.str (Str.ofString "v"))) (dCons (dVar 0) (dCons (dVar 1) dNil)))))
noncomputable abbrev r_sample_texts (f_numbered_texts : Mir) : Mir := runB 2 2 (m_sample_texts f_numbered_texts)
noncomputable def m_spare_texts (f_numbered_texts : Mir) : Ev → Sto → AnsS :=
    (sRet (dCall f_numbered_texts (dCons (dC (.str (Str.ofString "c"))) (dCons (dVar 0) (dCons (dVar 1) dNil)))))
noncomputable abbrev r_spare_texts (f_numbered_texts : Mir) : Mir := runB 2 2 (m_spare_texts f_numbered_texts)
noncomputable def m__law_tape : Ev → Sto → AnsS :=
    (sSeq (sAsg (.nm 1) (dC (.int 7)))
    (sSeq (sFor (wSeq (dVar 0)) (.nm 2) (sAsg (.nm 1) (dOp gMod (dCB cInt (dCons (dOp gAdd (dOp gMul (dVar 1) (dC (.int 31))) (dCB cAbs (dCons (dCB cInt (dCons (dVar 2) dNil)) dNil))) dNil)) (dC (.int 2147483647)))))
    (sRet (dCB gLst (dCons (dCB cList (dCons (dVar 0) dNil)) (dCons (dC (.int 0)) (dCons (dC (.int 0)) (dCons (dVar 1) dNil))))))))
noncomputable abbrev r__law_tape : Mir := runB 1 3 (m__law_tape)
noncomputable def m__law_draw : Ev → Sto → AnsS :=
    (sSeq (sIf (dBl (dOp gEq (dOp gIx (dVar 0) (dC (.int 2))) (dC (.int 0)))) (sSeq (sAsg (.nm 2) (dOp gIx (dVar 0) (dC (.int 1))))
    (sSeq (sAsg (.nm 3) (dC (.int 0)))
    (sSeq (sIf (dBl (dOp gLt (dVar 2) (dCB cLen (dCons (dOp gIx (dVar 0) (dC (.int 0))) dNil)))) (sAsg (.nm 3) (dCB cAbs (dCons (dCB cInt (dCons (dOp gIx (dOp gIx (dVar 0) (dC (.int 0))) (dVar 2)) dNil)) dNil))) (sSeq (sSub gSetL (dOp gMod (dCB cInt (dCons (dOp gAdd (dOp gAdd (dOp gMul (dOp gIx (dVar 0) (dC (.int 3))) (dC (.int 48271))) (dVar 2)) (dC (.int 1))) dNil)) (dC (.int 2147483647))) (dVar 0) (dC (.int 3)))
    (sAsg (.nm 3) (dOp gIx (dVar 0) (dC (.int 3))))))
    (sSeq (sSub gSetL (dOp gAdd (dVar 2) (dC (.int 1))) (dVar 0) (dC (.int 1)))
    (sSeq (sIf (dBl (dOp gLt (dVar 3) (dOp gPow (dC (.int 10)) (dC (.int 18))))) (sSeq (sAsg (.nm 3) (dOp gMod (dCB cInt (dCons (dOp gAdd (dOp gAdd (dOp gMul (dVar 3) (dC (.int 48271))) (dOp gMul (dVar 2) (dC (.int 69621)))) (dC (.int 5))) dNil)) (dC (.int 2147483647))))
    (sSeq (sAsg (.nm 3) (dOp gMod (dCB cInt (dCons (dOp gMul (dVar 3) (dC (.int 69621))) dNil)) (dC (.int 2147483629))))
    (sRet (dOp gMod (dCB cInt (dCons (dVar 3) dNil)) (dCB cMax2 (dCons (dVar 1) (dCons (dC (.int 1)) dNil))))))) sNext)
    (sSub gSetL (dVar 3) (dVar 0) (dC (.int 2)))))))) sNext)
    (sSeq (sAsg (.nm 3) (dOp gIx (dVar 0) (dC (.int 2))))
    (sSeq (sSub gSetL (dOp gFdiv (dVar 3) (dCB cMax2 (dCons (dVar 1) (dCons (dC (.int 2)) dNil)))) (dVar 0) (dC (.int 2)))
    (sRet (dOp gMod (dCB cInt (dCons (dVar 3) dNil)) (dCB cMax2 (dCons (dVar 1) (dCons (dC (.int 1)) dNil))))))))
noncomputable abbrev r__law_draw : Mir := runB 2 4 (m__law_draw)
noncomputable def m__law_text (f__law_draw : Mir) : Ev → Sto → AnsS :=
    (sSeq (sAsg (.nm 1) (dC (.str (Str.ofString " !#$&'()*+,-./0123456789:;<=>?@ABCDEFGHIJKLMNOPQRSTUVWXYZ[\\]^_`abcdefghijklmnopqrstuvwxyz{|}~"))))
    (sSeq (sAsg (.nm 2) (dCall f__law_draw (dCons (dVar 0) (dCons (dC (.int 24)) dNil))))
    (sSeq (sIf (dBl (dOp gLt (dVar 2) (dC (.int 12)))) (sRet (dOp gIx (dCB gLst (dCons (dC (.str (Str.ofString ""))) (dCons (dC (.str (Str.ofString "v1"))) (dCons (dC (.str (Str.ofString "v2"))) (dCons (dC (.str (Str.ofString "v3"))) (dCons (dC (.str (Str.ofString "c1"))) (dCons (dC (.str (Str.ofString "c2"))) (dCons (dC (.str (Str.ofString " "))) (dCons (dC (.str (Str.ofString "null"))) (dCons (dC (.str (Str.ofString "v01"))) (dCons (dC (.str (Str.ofString "V1"))) (dCons (dC (.str (Str.ofString "v10"))) (dCons (dC (.str (Str.ofString "x"))) dNil))))))))))))) (dVar 2))) sNext)
    (sSeq (sAsg (.nm 3) (dCall f__law_draw (dCons (dVar 0) (dCons (dOp gMul (dOp gMul (dC (.int 93)) (dC (.int 93))) (dC (.int 144))) dNil))))
    (sSeq (sAsg (.nm 4) (dOp gAdd (dC (.int 1)) (dOp gMod (dCB cInt (dCons (dVar 3) dNil)) (dC (.int 12)))))
    (sSeq (sAsg (.nm 5) (dOp gMod (dCB cInt (dCons (dOp gFdiv (dVar 3) (dC (.int 12))) dNil)) (dVar 4)))
    (sSeq (sAsg (.nm 6) (dOp gIx (dVar 1) (dOp gMod (dCB cInt (dCons (dOp gFdiv (dVar 3) (dC (.int 144))) dNil)) (dC (.int 93)))))
    (sRet (dOp gAdd (dOp gAdd (dOp gMul (dVar 6) (dVar 5)) (dOp gIx (dVar 1) (dOp gMod (dCB cInt (dCons (dOp gFdiv (dVar 3) (dC (.int 13392))) dNil)) (dC (.int 93))))) (dOp gMul (dVar 6) (dOp gSub (dOp gSub (dVar 4) (dVar 5)) (dC (.int 1)))))))))))))
noncomputable abbrev r__law_text (f__law_draw : Mir) : Mir := runB 1 7 (m__law_text f__law_draw)
noncomputable def m__law_known (f__law_draw : Mir) (f__law_text : Mir) : Ev → Sto → AnsS :=
    (sSeq (sAsg (.nm 2) (dCB gLst dNil))
    (sSeq (sFor (wRange (dCons (dCall f__law_draw (dCons (dVar 0) (dCons (dOp gAdd (dVar 1) (dC (.int 1))) dNil))) dNil)) (.nm 3) (sSeq (sAsg (.nm 4) (dCall f__law_draw (dCons (dVar 0) (dCons (dC (.int 56)) dNil))))
    (sSeq (sAsg (.nm 5) (dOp gAdd (dOp gIx (dCB gLst (dCons (dC (.str (Str.ofString "v"))) (dCons (dC (.str (Str.ofString "c"))) dNil))) (dOp gMod (dCB cInt (dCons (dVar 4) dNil)) (dC (.int 2)))) (dCB cStr (dCons (dOp gAdd (dC (.int 1)) (dCB cInt (dCons (dOp gFdiv (dVar 4) (dC (.int 4))) dNil))) dNil))))
    (sSeq (sIf (dBl (dOp gEq (dOp gMod (dCB cInt (dCons (dOp gFdiv (dVar 4) (dC (.int 2))) dNil)) (dC (.int 2))) (dC (.int 0)))) (sAsg (.nm 5) (dCall f__law_text (dCons (dVar 0) dNil))) sNext)
    (sIf (dBl (dOp gNotIn (dVar 5) (dVar 2))) (sExpr (dM "list" mAppend (dVar 2) (dCons (dVar 5) dNil))) sNext)))))
    (sRet (dCB cTuple (dCons (dCB cSortedS (dCons (dVar 2) dNil)) dNil)))))
noncomputable abbrev r__law_known (f__law_draw : Mir) (f__law_text : Mir) : Mir := runB 2 6 (m__law_known f__law_draw f__law_text)
noncomputable def m__law_first : Ev → Sto → AnsS :=
    (sSeq (sAsg (.nm 3) (dCB gLst dNil))
    (sSeq (sFor (wRange (dCons (dC (.int 1)) (dCons (dOp gAdd (dOp gAdd (dVar 1) (dCB cLen (dCons (dVar 2) dNil))) (dC (.int 1))) dNil))) (.nm 4) (sSeq (sAsg (.nm 5) (dOp gAdd (dVar 0) (dCB cStr (dCons (dVar 4) dNil))))
    (sIf (dAnd (dBl (dOp gNotIn (dVar 5) (dVar 2))) (dBl (dOp gLt (dCB cLen (dCons (dVar 3) dNil)) (dVar 1)))) (sExpr (dM "list" mAppend (dVar 3) (dCons (dVar 5) dNil))) sNext)))
    (sRet (dCB cTuple (dCons (dVar 3) dNil)))))
noncomputable abbrev r__law_first : Mir := runB 3 6 (m__law_first)
noncomputable def m_law (f_sample_texts : Mir) (f__law_first : Mir) (f_spare_texts : Mir) (f__law_known : Mir) (f__law_draw : Mir) (f__law_tape : Mir) : Ev → Sto → AnsS :=
    (sSeq (sAsg (.nm 1) (dCall f__law_tape (dCons (dVar 0) dNil)))
    (sSeq (sAsg (.nm 2) (dCall f__law_draw (dCons (dVar 1) (dCons (dC (.int 13)) dNil))))
    (sSeq (sIf (dBl (dOp gEq (dCall f__law_draw (dCons (dVar 1) (dCons (dC (.int 8)) dNil))) (dC (.int 0)))) (sAsg (.nm 2) (dOp gAdd (dC (.int 290)) (dCall f__law_draw (dCons (dVar 1) (dCons (dC (.int 11)) dNil))))) sNext)
    (sSeq (sAsg (.nm 3) (dCall f__law_known (dCons (dVar 1) (dCons (dC (.int 12)) dNil))))
    (sSeq (sIf (dBl (dOp gNe (dCallK f_sample_texts 1 1 (dCons (dVar 2) dNil) (dCons (dVar 3) dNil)) (dCall f__law_first (dCons (dC (.str (Str.ofString "v"))) (dCons (dVar 2) (dCons (dVar 3) dNil)))))) (sRet (dC (.bl false))) sNext)
    (sSeq (sIf (dBl (dOp gNe (dCallK f_spare_texts 1 1 (dCons (dVar 2) dNil) (dCons (dVar 3) dNil)) (dCall f__law_first (dCons (dC (.str (Str.ofString "c"))) (dCons (dVar 2) (dCons (dVar 3) dNil)))))) (sRet (dC (.bl false))) sNext)
    (sRet (dAndV (dOp gEq (dCallD f_sample_texts [.tup []] (dCons (dVar 2) dNil)) (dCall f__law_first (dCons (dC (.str (Str.ofString "v"))) (dCons (dVar 2) (dCons (dCB gTup dNil) dNil))))) (dOp gEq (dCallD f_spare_texts [.tup []] (dCons (dVar 2) dNil)) (dCall f__law_first (dCons (dC (.str (Str.ofString "c"))) (dCons (dVar 2) (dCons (dCB gTup dNil) dNil)))))))))))))
noncomputable abbrev r_law (f_sample_texts : Mir) (f__law_first : Mir) (f_spare_texts : Mir) (f__law_known : Mir) (f__law_draw : Mir) (f__law_tape : Mir) : Mir := runB 1 4 (m_law f_sample_texts f__law_first f_spare_texts f__law_known f__law_draw f__law_tape)
noncomputable def F_numbered_texts : Mir := gc (r_numbered_texts)
noncomputable def F_sample_texts : Mir := gc (r_sample_texts F_numbered_texts)
noncomputable def F_spare_texts : Mir := gc (r_spare_texts F_numbered_texts)
noncomputable def F__law_tape : Mir := gc (r__law_tape)
noncomputable def F__law_draw : Mir := gc (r__law_draw)
noncomputable def F__law_text : Mir := gc (r__law_text F__law_draw)
noncomputable def F__law_known : Mir := gc (r__law_known F__law_draw F__law_text)
noncomputable def F__law_first : Mir := gc (r__law_first)
noncomputable abbrev F_law : Mir := r_law F_sample_texts F__law_first F_spare_texts F__law_known F__law_draw F__law_tape
structure Txt (mg : Str → Option Value) : Prop where
  n_tuple : mg "tuple" = none
  n_len : mg "len" = none
  n_str : mg "str" = none
  n_list : mg "list" = none
  n_int : mg "int" = none
  n_abs : mg "abs" = none
  n_max : mg "max" = none
  n_sorted : mg "sorted" = none
  n_range : mg "range" = none
section
variable {P : Program} {w : World} {K : PySem.W.Frag} {mg : Str → Option Value} {base : Heap}
set_option maxHeartbeats 4000000 in
theorem ok_numbered_texts (T : Txt mg) {a : Addr} {fd : FuncData} (F : Fun K "numbered_texts" "numbered_texts" s_numbered_texts a fd) : FnOk P w K mg base (L2.CX P w) 1 a fd ["letter", "many", "but"] (spM K mg (r_numbered_texts)) :=
  fn_body (N := N_numbered_texts) F sc_numbered_texts fun cdv A outer s H E hr =>
      (dss_cons (ds_set (i := 3) sc_numbered_texts.nd rfl (Or.inl rfl) (d_lst da_nil))
      (dss_cons (ds_set (i := 4) sc_numbered_texts.nd rfl (Or.inl rfl) d_int)
      (dss_cons (ds_while fuel (passes_of rfl) (dt_cmp o_lt (d_callB c_len (by rfl) T.n_len (by decide +kernel) (da_cons (d_var 3) da_nil)) (d_var 1) (nomark _)) (dss_cons (ds_aug (i := 4) sc_numbered_texts.nd rfl (Or.inl rfl) o_iadd d_int)
      (dss_cons (ds_set (i := 5) sc_numbered_texts.nd rfl (Or.inl rfl) (d_op o_add (d_var 0) (d_callTy c_str (by rfl) T.n_str (by decide +kernel) (da_cons (d_var 4) da_nil))))
      (dss_one (ds_if (dt_cmp o_notin (d_var 5) (d_var 2) (by rfl)) (dss_one (ds_expr (d_m PySem.F.plainAttrs_list PySem.F.slot_list_append PySem.F.type_list_append m_append (d_var 3) (da_cons (d_var 5) da_nil)))) dss_nil)))))
      (dss_one (ds_ret (d_callTy c_tuple (by rfl) T.n_tuple (by decide +kernel) (da_cons (d_var 3) da_nil)))))))
set_option maxHeartbeats 4000000 in
theorem ok_sample_texts (T : Txt mg) {f_numbered_texts : Mir} (C_numbered_texts : Cal P w K mg base "numbered_texts" 1 ["letter", "many", "but"] f_numbered_texts) {a : Addr} {fd : FuncData} (F : Fun K "sample_texts" "sample_texts" s_sample_texts a fd) : FnOk P w K mg base (L2.CX P w) 2 a fd ["many", "but"] (spM K mg (r_sample_texts f_numbered_texts)) :=
  fn_body (N := N_sample_texts) F sc_sample_texts fun cdv A outer s H E hr =>
      (dss_one (ds_ret (d_cal C_numbered_texts (hr.mono (by decide)) (by rfl) passX (da_cons d_str (da_cons (d_var 0) (da_cons (d_var 1) da_nil))))))
set_option maxHeartbeats 4000000 in
theorem ok_spare_texts (T : Txt mg) {f_numbered_texts : Mir} (C_numbered_texts : Cal P w K mg base "numbered_texts" 1 ["letter", "many", "but"] f_numbered_texts) {a : Addr} {fd : FuncData} (F : Fun K "spare_texts" "spare_texts" s_spare_texts a fd) : FnOk P w K mg base (L2.CX P w) 2 a fd ["many", "but"] (spM K mg (r_spare_texts f_numbered_texts)) :=
  fn_body (N := N_spare_texts) F sc_spare_texts fun cdv A outer s H E hr =>
      (dss_one (ds_ret (d_cal C_numbered_texts (hr.mono (by decide)) (by rfl) passX (da_cons d_str (da_cons (d_var 0) (da_cons (d_var 1) da_nil))))))
set_option maxHeartbeats 4000000 in
theorem ok__law_tape (T : Txt mg) {a : Addr} {fd : FuncData} (F : Fun K "_law_tape" "_law_tape" s__law_tape a fd) : FnOk P w K mg base (L2.CX P w) 1 a fd ["_law_script"] (spM K mg (r__law_tape)) :=
  fn_body (N := N__law_tape) F sc__law_tape fun cdv A outer s H E hr =>
      (dss_cons (ds_set (i := 1) sc__law_tape.nd rfl (Or.inl rfl) d_int)
      (dss_cons (ds_for (passes_of rfl) rfl (di_seq (d_var 0)) (dg_name (i := 2) sc__law_tape.nd rfl (Or.inl rfl)) (dss_one (ds_set (i := 1) sc__law_tape.nd rfl (Or.inl rfl) (d_op o_mod (d_callTy c_int (by rfl) T.n_int (by decide +kernel) (da_cons (d_op o_add (d_op o_mul (d_var 1) d_int) (d_callB c_abs (by rfl) T.n_abs (by decide +kernel) (da_cons (d_callTy c_int (by rfl) T.n_int (by decide +kernel) (da_cons (d_var 2) da_nil)) da_nil))) da_nil)) d_int))))
      (dss_one (ds_ret (d_lst (da_cons (d_callTy c_list (by rfl) T.n_list (by decide +kernel) (da_cons (d_var 0) da_nil)) (da_cons d_int (da_cons d_int (da_cons (d_var 1) da_nil)))))))))
set_option maxHeartbeats 4000000 in
theorem ok__law_draw (T : Txt mg) {a : Addr} {fd : FuncData} (F : Fun K "_law_draw" "_law_draw" s__law_draw a fd) : FnOk P w K mg base (L2.CX P w) 1 a fd ["_law_tape_here", "_law_many"] (spM K mg (r__law_draw)) :=
  fn_body (N := N__law_draw) F sc__law_draw fun cdv A outer s H E hr =>
      (dss_cons (ds_if (dt_cmp (o_eq hr.units) (d_ix i_ix (d_var 0) d_int (fun _ _ => rfl)) d_int (nomark _)) (dss_cons (ds_set (i := 2) sc__law_draw.nd rfl (Or.inl rfl) (d_ix i_ix (d_var 0) d_int (fun _ _ => rfl)))
      (dss_cons (ds_set (i := 3) sc__law_draw.nd rfl (Or.inl rfl) d_int)
      (dss_cons (ds_if (dt_cmp o_lt (d_var 2) (d_callB c_len (by rfl) T.n_len (by decide +kernel) (da_cons (d_ix i_ix (d_var 0) d_int (fun _ _ => rfl)) da_nil)) (nomark _)) (dss_one (ds_set (i := 3) sc__law_draw.nd rfl (Or.inl rfl) (d_callB c_abs (by rfl) T.n_abs (by decide +kernel) (da_cons (d_callTy c_int (by rfl) T.n_int (by decide +kernel) (da_cons (d_ix i_ix (d_ix i_ix (d_var 0) d_int (fun _ _ => rfl)) (d_var 2) (fun _ _ => rfl)) da_nil)) da_nil)))) (dss_cons (ds_sub s_list (d_op o_mod (d_callTy c_int (by rfl) T.n_int (by decide +kernel) (da_cons (d_op o_add (d_op o_add (d_op o_mul (d_ix i_ix (d_var 0) d_int (fun _ _ => rfl)) d_int) (d_var 2)) d_int) da_nil)) d_int) (d_var 0) d_int)
      (dss_one (ds_set (i := 3) sc__law_draw.nd rfl (Or.inl rfl) (d_ix i_ix (d_var 0) d_int (fun _ _ => rfl))))))
      (dss_cons (ds_sub s_list (d_op o_add (d_var 2) d_int) (d_var 0) d_int)
      (dss_cons (ds_if (dt_cmp o_lt (d_var 3) (d_op o_pow d_int d_int) (nomark _)) (dss_cons (ds_set (i := 3) sc__law_draw.nd rfl (Or.inl rfl) (d_op o_mod (d_callTy c_int (by rfl) T.n_int (by decide +kernel) (da_cons (d_op o_add (d_op o_add (d_op o_mul (d_var 3) d_int) (d_op o_mul (d_var 2) d_int)) d_int) da_nil)) d_int))
      (dss_cons (ds_set (i := 3) sc__law_draw.nd rfl (Or.inl rfl) (d_op o_mod (d_callTy c_int (by rfl) T.n_int (by decide +kernel) (da_cons (d_op o_mul (d_var 3) d_int) da_nil)) d_int))
      (dss_one (ds_ret (d_op o_mod (d_callTy c_int (by rfl) T.n_int (by decide +kernel) (da_cons (d_var 3) da_nil)) (d_callB (c_max2 rfl) (by rfl) T.n_max (by decide +kernel) (da_cons (d_var 1) (da_cons d_int da_nil)))))))) dss_nil)
      (dss_one (ds_sub s_list (d_var 3) (d_var 0) d_int))))))) dss_nil)
      (dss_cons (ds_set (i := 3) sc__law_draw.nd rfl (Or.inl rfl) (d_ix i_ix (d_var 0) d_int (fun _ _ => rfl)))
      (dss_cons (ds_sub s_list (d_op o_fdiv (d_var 3) (d_callB (c_max2 rfl) (by rfl) T.n_max (by decide +kernel) (da_cons (d_var 1) (da_cons d_int da_nil)))) (d_var 0) d_int)
      (dss_one (ds_ret (d_op o_mod (d_callTy c_int (by rfl) T.n_int (by decide +kernel) (da_cons (d_var 3) da_nil)) (d_callB (c_max2 rfl) (by rfl) T.n_max (by decide +kernel) (da_cons (d_var 1) (da_cons d_int da_nil)))))))))
set_option maxHeartbeats 4000000 in
theorem ok__law_text (T : Txt mg) {f__law_draw : Mir} (C__law_draw : Cal P w K mg base "_law_draw" 1 ["_law_tape_here", "_law_many"] f__law_draw) {a : Addr} {fd : FuncData} (F : Fun K "_law_text" "_law_text" s__law_text a fd) : FnOk P w K mg base (L2.CX P w) 2 a fd ["_law_tape_here"] (spM K mg (r__law_text f__law_draw)) :=
  fn_body (N := N__law_text) F sc__law_text fun cdv A outer s H E hr =>
      (dss_cons (ds_set (i := 1) sc__law_text.nd rfl (Or.inl rfl) d_str)
      (dss_cons (ds_set (i := 2) sc__law_text.nd rfl (Or.inl rfl) (d_cal C__law_draw (hr.mono (by decide)) (by rfl) passX (da_cons (d_var 0) (da_cons d_int da_nil))))
      (dss_cons (ds_if (dt_cmp o_lt (d_var 2) d_int (nomark _)) (dss_one (ds_ret (d_ix i_ix (d_lst (da_cons d_str (da_cons d_str (da_cons d_str (da_cons d_str (da_cons d_str (da_cons d_str (da_cons d_str (da_cons d_str (da_cons d_str (da_cons d_str (da_cons d_str (da_cons d_str da_nil))))))))))))) (d_var 2) (fun _ _ => rfl)))) dss_nil)
      (dss_cons (ds_set (i := 3) sc__law_text.nd rfl (Or.inl rfl) (d_cal C__law_draw (hr.mono (by decide)) (by rfl) passX (da_cons (d_var 0) (da_cons (d_op o_mul (d_op o_mul d_int d_int) d_int) da_nil))))
      (dss_cons (ds_set (i := 4) sc__law_text.nd rfl (Or.inl rfl) (d_op o_add d_int (d_op o_mod (d_callTy c_int (by rfl) T.n_int (by decide +kernel) (da_cons (d_var 3) da_nil)) d_int)))
      (dss_cons (ds_set (i := 5) sc__law_text.nd rfl (Or.inl rfl) (d_op o_mod (d_callTy c_int (by rfl) T.n_int (by decide +kernel) (da_cons (d_op o_fdiv (d_var 3) d_int) da_nil)) (d_var 4)))
      (dss_cons (ds_set (i := 6) sc__law_text.nd rfl (Or.inl rfl) (d_ix i_ix (d_var 1) (d_op o_mod (d_callTy c_int (by rfl) T.n_int (by decide +kernel) (da_cons (d_op o_fdiv (d_var 3) d_int) da_nil)) d_int) (fun _ _ => rfl)))
      (dss_one (ds_ret (d_op o_add (d_op o_add (d_op o_mul (d_var 6) (d_var 5)) (d_ix i_ix (d_var 1) (d_op o_mod (d_callTy c_int (by rfl) T.n_int (by decide +kernel) (da_cons (d_op o_fdiv (d_var 3) d_int) da_nil)) d_int) (fun _ _ => rfl))) (d_op o_mul (d_var 6) (d_op o_sub (d_op o_sub (d_var 4) (d_var 5)) d_int))))))))))))
set_option maxHeartbeats 4000000 in
theorem ok__law_known (T : Txt mg) {f__law_draw : Mir} (C__law_draw : Cal P w K mg base "_law_draw" 1 ["_law_tape_here", "_law_many"] f__law_draw) {f__law_text : Mir} (C__law_text : Cal P w K mg base "_law_text" 2 ["_law_tape_here"] f__law_text) {a : Addr} {fd : FuncData} (F : Fun K "_law_known" "_law_known" s__law_known a fd) : FnOk P w K mg base (L2.CX P w) 3 a fd ["_law_tape_here", "_law_most"] (spM K mg (r__law_known f__law_draw f__law_text)) :=
  fn_body (N := N__law_known) F sc__law_known fun cdv A outer s H E hr =>
      (dss_cons (ds_set (i := 2) sc__law_known.nd rfl (Or.inl rfl) (d_lst da_nil))
      (dss_cons (ds_for (passes_of rfl) rfl (di_range1 (by rfl) T.n_range (da_cons (d_cal C__law_draw (hr.mono (by decide)) (by rfl) passX (da_cons (d_var 0) (da_cons (d_op o_add (d_var 1) d_int) da_nil))) da_nil) (len_cons len_nil)) (dg_name (i := 3) sc__law_known.nd rfl (Or.inl rfl)) (dss_cons (ds_set (i := 4) sc__law_known.nd rfl (Or.inl rfl) (d_cal C__law_draw (hr.mono (by decide)) (by rfl) passX (da_cons (d_var 0) (da_cons d_int da_nil))))
      (dss_cons (ds_set (i := 5) sc__law_known.nd rfl (Or.inl rfl) (d_op o_add (d_ix i_ix (d_lst (da_cons d_str (da_cons d_str da_nil))) (d_op o_mod (d_callTy c_int (by rfl) T.n_int (by decide +kernel) (da_cons (d_var 4) da_nil)) d_int) (fun _ _ => rfl)) (d_callTy c_str (by rfl) T.n_str (by decide +kernel) (da_cons (d_op o_add d_int (d_callTy c_int (by rfl) T.n_int (by decide +kernel) (da_cons (d_op o_fdiv (d_var 4) d_int) da_nil))) da_nil))))
      (dss_cons (ds_if (dt_cmp (o_eq hr.units) (d_op o_mod (d_callTy c_int (by rfl) T.n_int (by decide +kernel) (da_cons (d_op o_fdiv (d_var 4) d_int) da_nil)) d_int) d_int (nomark _)) (dss_one (ds_set (i := 5) sc__law_known.nd rfl (Or.inl rfl) (d_cal C__law_text (hr.mono (by decide)) (by rfl) passX (da_cons (d_var 0) da_nil)))) dss_nil)
      (dss_one (ds_if (dt_cmp o_notin (d_var 5) (d_var 2) (by rfl)) (dss_one (ds_expr (d_m PySem.F.plainAttrs_list PySem.F.slot_list_append PySem.F.type_list_append m_append (d_var 2) (da_cons (d_var 5) da_nil)))) dss_nil))))))
      (dss_one (ds_ret (d_callTy c_tuple (by rfl) T.n_tuple (by decide +kernel) (da_cons (d_callB c_sortedS (by rfl) T.n_sorted (by decide +kernel) (da_cons (d_var 2) da_nil)) da_nil))))))
set_option maxHeartbeats 4000000 in
theorem ok__law_first (T : Txt mg) {a : Addr} {fd : FuncData} (F : Fun K "_law_first" "_law_first" s__law_first a fd) : FnOk P w K mg base (L2.CX P w) 1 a fd ["_law_letter", "_law_many", "_law_constants"] (spM K mg (r__law_first)) :=
  fn_body (N := N__law_first) F sc__law_first fun cdv A outer s H E hr =>
      (dss_cons (ds_set (i := 3) sc__law_first.nd rfl (Or.inl rfl) (d_lst da_nil))
      (dss_cons (ds_for (passes_of rfl) rfl (di_range2 (by rfl) T.n_range (da_cons d_int (da_cons (d_op o_add (d_op o_add (d_var 1) (d_callB c_len (by rfl) T.n_len (by decide +kernel) (da_cons (d_var 2) da_nil))) d_int) da_nil)) (len_cons (len_cons len_nil))) (dg_name (i := 4) sc__law_first.nd rfl (Or.inl rfl)) (dss_cons (ds_set (i := 5) sc__law_first.nd rfl (Or.inl rfl) (d_op o_add (d_var 0) (d_callTy c_str (by rfl) T.n_str (by decide +kernel) (da_cons (d_var 4) da_nil))))
      (dss_one (ds_if (dt_w (dw_and (dt_cmp o_notin (d_var 5) (d_var 2) (by rfl)) (dw_and1 (dt_cmp o_lt (d_callB c_len (by rfl) T.n_len (by decide +kernel) (da_cons (d_var 3) da_nil)) (d_var 1) (nomark _))))) (dss_one (ds_expr (d_m PySem.F.plainAttrs_list PySem.F.slot_list_append PySem.F.type_list_append m_append (d_var 3) (da_cons (d_var 5) da_nil)))) dss_nil))))
      (dss_one (ds_ret (d_callTy c_tuple (by rfl) T.n_tuple (by decide +kernel) (da_cons (d_var 3) da_nil))))))
set_option maxHeartbeats 4000000 in
theorem ok_law (T : Txt mg) {f_sample_texts : Mir} (CD_sample_texts : CalD P w K mg base "sample_texts" 2 ["many", "but"] f_sample_texts [.tup []]) (CK_sample_texts : CalK P w K mg base "sample_texts" 2 ["many", "but"] f_sample_texts 1 ["but"]) {f__law_first : Mir} (C__law_first : Cal P w K mg base "_law_first" 1 ["_law_letter", "_law_many", "_law_constants"] f__law_first) {f_spare_texts : Mir} (CD_spare_texts : CalD P w K mg base "spare_texts" 2 ["many", "but"] f_spare_texts [.tup []]) (CK_spare_texts : CalK P w K mg base "spare_texts" 2 ["many", "but"] f_spare_texts 1 ["but"]) {f__law_known : Mir} (C__law_known : Cal P w K mg base "_law_known" 3 ["_law_tape_here", "_law_most"] f__law_known) {f__law_draw : Mir} (C__law_draw : Cal P w K mg base "_law_draw" 1 ["_law_tape_here", "_law_many"] f__law_draw) {f__law_tape : Mir} (C__law_tape : Cal P w K mg base "_law_tape" 1 ["_law_script"] f__law_tape) {a : Addr} {fd : FuncData} (F : Fun K "law" "law" s_law a fd) : FnOk P w K mg base (L2.CX P w) 4 a fd ["_law_script"] (spM K mg (r_law f_sample_texts f__law_first f_spare_texts f__law_known f__law_draw f__law_tape)) :=
  fn_body (N := N_law) F sc_law fun cdv A outer s H E hr =>
      (dss_cons (ds_set (i := 1) sc_law.nd rfl (Or.inl rfl) (d_cal C__law_tape (hr.mono (by decide)) (by rfl) passX (da_cons (d_var 0) da_nil)))
      (dss_cons (ds_set (i := 2) sc_law.nd rfl (Or.inl rfl) (d_cal C__law_draw (hr.mono (by decide)) (by rfl) passX (da_cons (d_var 1) (da_cons d_int da_nil))))
      (dss_cons (ds_if (dt_cmp (o_eq hr.units) (d_cal C__law_draw (hr.mono (by decide)) (by rfl) passX (da_cons (d_var 1) (da_cons d_int da_nil))) d_int (nomark _)) (dss_one (ds_set (i := 2) sc_law.nd rfl (Or.inl rfl) (d_op o_add d_int (d_cal C__law_draw (hr.mono (by decide)) (by rfl) passX (da_cons (d_var 1) (da_cons d_int da_nil)))))) dss_nil)
      (dss_cons (ds_set (i := 3) sc_law.nd rfl (Or.inl rfl) (d_cal C__law_known (hr.mono (by decide)) (by rfl) passX (da_cons (d_var 1) (da_cons d_int da_nil))))
      (dss_cons (ds_if (dt_cmp (o_ne hr.units) (d_calK CK_sample_texts (hr.mono (by decide)) (by rfl) passX (da_cons (d_var 2) da_nil) (dk_cons (d_var 3) dk_nil)) (d_cal C__law_first (hr.mono (by decide)) (by rfl) passX (da_cons d_str (da_cons (d_var 2) (da_cons (d_var 3) da_nil)))) (nomark _)) (dss_one (ds_ret d_bl)) dss_nil)
      (dss_cons (ds_if (dt_cmp (o_ne hr.units) (d_calK CK_spare_texts (hr.mono (by decide)) (by rfl) passX (da_cons (d_var 2) da_nil) (dk_cons (d_var 3) dk_nil)) (d_cal C__law_first (hr.mono (by decide)) (by rfl) passX (da_cons d_str (da_cons (d_var 2) (da_cons (d_var 3) da_nil)))) (nomark _)) (dss_one (ds_ret d_bl)) dss_nil)
      (dss_one (ds_ret (d_and (d_cmp (o_eq hr.units) (d_calD CD_sample_texts (hr.mono (by decide)) (by rfl) passX (da_cons (d_var 2) da_nil)) (d_cal C__law_first (hr.mono (by decide)) (by rfl) passX (da_cons d_str (da_cons (d_var 2) (da_cons (d_tup da_nil) da_nil)))) (nomark _)) (d_one (d_cmp (o_eq hr.units) (d_calD CD_spare_texts (hr.mono (by decide)) (by rfl) passX (da_cons (d_var 2) da_nil)) (d_cal C__law_first (hr.mono (by decide)) (by rfl) passX (da_cons d_str (da_cons (d_var 2) (da_cons (d_tup da_nil) da_nil)))) (nomark _))))))))))))
end
end LW
namespace LW
open PySem PySem.Spec PyProof.Rows L2 RT RZ DL
/-- the tape at t, the copied script at s -/
structure Tp (S : Sto) (t s : Nat) : Prop where
  tape : ∃ p n g : Int, S[t]? = some (.lst [.ref s, .int p, .int n, .int g]) ∧ 0 ≤ p
  src : ∃ ns : List Int, S[s]? = some (.lst (ns.map D.int))
  ne : t ≠ s
  cl : ClS S
theorem small_log {m : Int} (h : m.natAbs < 2 ^ 64) : m.natAbs.log2 < 9000 := by
  by_cases h0 : m.natAbs = 0
  · rw [h0]; decide
  · have := (Nat.log2_lt h0).mpr h
    omega
set_option maxHeartbeats 2000000 in
theorem draw_ex {S : Sto} {t s : Nat} {m : Int} (T : Tp S t s) (hm : m.natAbs < 2 ^ 62) : ∃ v q, F__law_draw [.ref t, .int m] S = some (.ok (.int v), S.set t (.lst q)) ∧ 0 ≤ v ∧ v < max m 1 ∧ Tp (S.set t (.lst q)) t s := by
  obtain ⟨⟨p, n, g, ht, hp⟩, ⟨ns, hs⟩, ne, cl⟩ := T
  have lt : t < S.length := lst_lt ht
  have ls : s < S.length := lst_lt hs
  have tp : ∀ p' n' g' : Int, 0 ≤ p' → Tp (S.set t (.lst [.ref s, .int p', .int n', .int g'])) t s := fun p' n' g' h => ⟨⟨p', n', g', by simp [lt], h⟩, ⟨ns, by rw [List.getElem?_set_ne ne]; exact hs⟩, ne, cl.set (by simp [O.items, ls])⟩
  have mod1 : ∀ x : Int, 0 ≤ x % (if 1 > m then 1 else m) ∧ x % (if 1 > m then 1 else m) < max m 1 := fun x => by
    have h0 : (0 : Int) < (if 1 > m then 1 else m) := by split <;> omega
    refine ⟨Int.emod_nonneg _ (by omega), Int.lt_of_lt_of_le (Int.emod_lt_of_pos _ h0) (by split <;> omega)⟩
  have pos1 : (0 : Int) < (if 1 > m then 1 else m) := by split <;> omega
  have div2 : CDivW n (if 2 > m then 2 else m) := ⟨by split <;> omega, small_log (by split <;> omega)⟩
  have div2' : ∀ n : Int, CDivW n (if 2 > m then 2 else m) := fun n => ⟨by split <;> omega, small_log (by split <;> omega)⟩
  have a0 : ∀ (p n g : Int), atI [D.ref s, .int p, .int n, .int g] 0 = some (.ref s) := fun _ _ _ => rfl
  have a1 : ∀ (p n g : Int), atI [D.ref s, .int p, .int n, .int g] 1 = some (.int p) := fun _ _ _ => rfl
  have a2 : ∀ (p n g : Int), atI [D.ref s, .int p, .int n, .int g] 2 = some (.int n) := fun _ _ _ => rfl
  have a3 : ∀ (p n g : Int), atI [D.ref s, .int p, .int n, .int g] 3 = some (.int g) := fun _ _ _ => rfl
  have gs : ∀ o : O, (S.set t o)[t]? = some o := fun o => List.getElem?_set_self lt
  have gn : ∀ o : O, (S.set t o)[s]? = some (.lst (ns.map D.int)) := fun o => by rw [List.getElem?_set_ne ne]; exact hs
  have i1 : ixN 4 1 = some 1 := rfl
  have i2 : ixN 4 2 = some 2 := rfl
  have i3 : ixN 4 3 = some 3 := rfl
  suffices h : ∃ x p' n' g' : Int, 0 ≤ p' ∧ r__law_draw [.ref t, .int m] S = some (.ok (.int (x % (if 1 > m then 1 else m))), S.set t (.lst [.ref s, .int p', .int n', .int g'])) by
    obtain ⟨x, p', n', g', h0, h⟩ := h
    exact ⟨_, _, gc_same h (List.length_set ..), (mod1 x).1, (mod1 x).2, tp p' n' g' h0⟩
  by_cases hn : n = 0
  · subst hn
    by_cases hpl : p < ns.length
    · obtain ⟨k, hk⟩ : ∃ k : Nat, p = k := ⟨p.toNat, by omega⟩
      have hk2 : k < ns.length := by omega
      have hat : atI (ns.map D.int) p = some (.int ns[k]) := atI_of hk (by simp [hk2])
      by_cases hb : (if ns[k] < 0 then -ns[k] else ns[k]) < 1000000000000000000
      · refine ⟨(((if ns[k] < 0 then -ns[k] else ns[k]) * 48271 + p * 69621 + 5) % 2147483647 * 69621) % 2147483629, p + 1, 0, g, by omega, ?_⟩
        simp [m__law_draw, E_seq_ref, ht, hs, a0, a1, a2, a3, i1, i2, i3, hpl, hat, gs, gn, hb, pos1]
      · refine ⟨(if ns[k] < 0 then -ns[k] else ns[k]), p + 1, (if ns[k] < 0 then -ns[k] else ns[k]) / (if 2 > m then 2 else m), g, by omega, ?_⟩
        simp [m__law_draw, E_seq_ref, ht, hs, a0, a1, a2, a3, i1, i2, i3, hpl, hat, gs, gn, hb, pos1, E_gFdiv, div2']
    · have hg : (g * 48271 + p + 1) % 2147483647 < 1000000000000000000 := by omega
      refine ⟨(((g * 48271 + p + 1) % 2147483647 * 48271 + p * 69621 + 5) % 2147483647 * 69621) % 2147483629, p + 1, 0, (g * 48271 + p + 1) % 2147483647, by omega, ?_⟩
      simp [m__law_draw, E_seq_ref, ht, hs, a0, a1, a2, a3, i1, i2, i3, hpl, gs, gn, hg, pos1]
  · refine ⟨n, p, n / (if 2 > m then 2 else m), g, hp, ?_⟩
    simp [m__law_draw, E_seq_ref, ht, hs, a0, a1, a2, a3, i1, i2, i3, gs, gn, hn, pos1, E_gFdiv, div2']

theorem Tp.app {S T : Sto} {t s : Nat} (h : Tp S t s) (c : ClS (S ++ T)) : Tp (S ++ T) t s := by
  obtain ⟨⟨p, n, g, ht, hp⟩, ⟨ns, hs⟩, ne, cl⟩ := h
  exact ⟨⟨p, n, g, get_old ht, hp⟩, ⟨ns, get_old hs⟩, ne, c⟩
theorem Tp.lt {S : Sto} {t s : Nat} (h : Tp S t s) : t < S.length := by
  obtain ⟨p, n, g, ht, hp⟩ := h.tape
  exact lst_lt ht
/-- another list is written -/
theorem Tp.other {S : Sto} {t s k : Nat} {o : O} (h : Tp S t s) (h1 : k ≠ t) (h2 : k ≠ s) (c : D.clBs S.length o.items = true) : Tp (S.set k o) t s := by
  obtain ⟨⟨p, n, g, ht, hp⟩, ⟨ns, hs⟩, ne, cl⟩ := h
  exact ⟨⟨p, n, g, by rw [List.getElem?_set_ne h1]; exact ht, hp⟩, ⟨ns, by rw [List.getElem?_set_ne h2]; exact hs⟩, ne, cl.set c⟩
set_option maxHeartbeats 1000000 in
theorem tape_ex (ns : List Int) : ∃ q, F__law_tape [.ref 0] [.rol (ns.map D.int)] = some (.ok (.ref 2), [.rol (ns.map D.int), .lst (ns.map D.int), .lst q]) ∧ Tp [.rol (ns.map D.int), .lst (ns.map D.int), .lst q] 2 1 := by
  suffices h : ∃ g : Int, r__law_tape [.ref 0] [.rol (ns.map D.int)] = some (.ok (.ref 2), [.rol (ns.map D.int), .lst (ns.map D.int), .lst [.ref 1, .int 0, .int 0, .int g]]) by
    obtain ⟨g, h⟩ := h
    refine ⟨_, gc_keep h rfl, ⟨0, 0, g, rfl, by omega⟩, ⟨ns, rfl⟩, by decide, fun o ho => ?_⟩
    simp only [List.mem_cons, List.not_mem_nil, or_false] at ho
    rcases ho with rfl | rfl | rfl <;> simp [O.clB, O.items]
  obtain ⟨env', S', h1, x, y, h2, h3⟩ := forD_all (ok := fun S => seqOf (.ref 0) S = some (ns.map D.int)) (t := .nm 2) (fb := sAsg (.nm 1) (dOp gMod (dCB cInt (dCons (dOp gAdd (dOp gMul (dVar 1) (dC (.int 31))) (dCB cAbs (dCons (dCB cInt (dCons (dVar 2) dNil)) dNil))) dNil)) (dC (.int 2147483647))))
    (fun _ env S => ∃ (x : Int) (y : Option D), env = [some (.ref 0), some (.int x), y] ∧ S = [.rol (ns.map D.int)]) (ns.map D.int) [some (.ref 0), some (.int 7), none] [.rol (ns.map D.int)] (by rintro j env S - ⟨x, y, rfl, rfl⟩; rfl) ⟨7, none, rfl, rfl⟩ (by
      rintro j x env S hx ⟨u, y, rfl, rfl⟩
      obtain ⟨i, -, rfl⟩ : ∃ i, i ∈ ns ∧ D.int i = x := by simpa using List.mem_of_getElem? hx
      exact ⟨_, _, _, rfl, by simp; exact ⟨rfl, rfl⟩, _, _, rfl, rfl⟩)
  subst h2 h3
  refine ⟨x, ?_⟩
  have q0 : seqOf (.ref 0) [O.rol (ns.map D.int)] = some (ns.map D.int) := rfl
  simp [m__law_tape, q0, h1, sizeLine_eq]
end LW
namespace LW
open PySem PySem.Spec PyProof.Rows L2 RT RZ DL
/-- only the tape was written -/
def Wr (t : Nat) (S B : Sto) : Prop := ∃ q, B = S.set t (.lst q)
theorem Wr.len {t : Nat} {S B : Sto} (h : Wr t S B) : B.length = S.length := by
  obtain ⟨q, rfl⟩ := h
  exact List.length_set ..
theorem Wr.trans {t : Nat} {S B C : Sto} (h : Wr t S B) (g : Wr t B C) : Wr t S C := by
  obtain ⟨q, rfl⟩ := h
  obtain ⟨p, rfl⟩ := g
  exact ⟨p, List.set_set ..⟩
theorem Tp.wr {t s : Nat} {S : Sto} (h : Tp S t s) : Wr t S S := by
  obtain ⟨p, n, g, ht, -⟩ := h.tape
  refine ⟨[.ref s, .int p, .int n, .int g], List.ext_getElem? fun i => ?_⟩
  by_cases e : i = t
  · subst e
    rw [List.getElem?_set_self h.lt, ht]
  · rw [List.getElem?_set_ne (Ne.symm e)]
theorem Tp.srclt {t s : Nat} {S : Sto} (h : Tp S t s) : s < S.length := by
  obtain ⟨ns, hs⟩ := h.src
  exact lst_lt hs
theorem Wr.get {t n : Nat} {S B : Sto} (h : Wr t S B) (hn : n ≠ t) : B[n]? = S[n]? := by
  obtain ⟨q, rfl⟩ := h
  exact List.getElem?_set_ne (Ne.symm hn)
theorem draw_app {B T : Sto} {t s : Nat} {m : Int} (h : Tp B t s) (c : ClS (B ++ T)) (hm : m.natAbs < 2 ^ 62) : ∃ v B', F__law_draw [.ref t, .int m] (B ++ T) = some (.ok (.int v), B' ++ T) ∧ 0 ≤ v ∧ v < max m 1 ∧ Tp B' t s ∧ Wr t B B' ∧ ClS (B' ++ T) := by
  obtain ⟨v, q, h1, h2, h3, h4⟩ := draw_ex (h.app c) hm
  have e : (B ++ T).set t (.lst q) = B.set t (.lst q) ++ T := List.set_append_left _ _ h.lt
  rw [e] at h1 h4
  have lt2 : t < (B.set t (.lst q)).length := by rw [List.length_set]; exact h.lt
  refine ⟨v, _, h1, h2, h3, ?_, ⟨q, rfl⟩, h4.cl⟩
  obtain ⟨p, n, g, ht, hp⟩ := h4.tape
  rw [List.getElem?_append_left lt2] at ht
  have ht2 := ht
  rw [List.getElem?_set_self h.lt] at ht2
  cases ht2
  obtain ⟨ns, hs⟩ := h.src
  refine ⟨⟨p, n, g, ht, hp⟩, ⟨ns, by rw [List.getElem?_set_ne h.ne]; exact hs⟩, h.ne, h.cl.set (by simp [O.items, h.srclt])⟩
theorem draw_wr {S : Sto} {t s : Nat} {m : Int} (h : Tp S t s) (hm : m.natAbs < 2 ^ 62) : ∃ v B, F__law_draw [.ref t, .int m] S = some (.ok (.int v), B) ∧ 0 ≤ v ∧ v < max m 1 ∧ Tp B t s ∧ Wr t S B := by
  obtain ⟨v, B, h1, h2, h3, h4, h5, -⟩ := draw_app (T := []) h (by simpa using h.cl) hm
  simp only [List.append_nil] at h1
  exact ⟨v, B, h1, h2, h3, h4, h5⟩
theorem gc_wr {m : Mir} {ds : List D} {S B T : Sto} {r : R D} {t : Nat} (w : Wr t S B) (hc : ClS B) (h : m ds S = some (r, B ++ T)) (hr : r.clB S.length = true) : gc m ds S = some (r, B) := by
  obtain ⟨q, rfl⟩ := w
  exact gc_set hc h hr
end LW
namespace LW
open PySem PySem.Spec PyProof.Rows L2 RT RZ DL
/-! ### texts -/
theorem get12 {α : Type} {l : List α} {i : Int} (h0 : 0 ≤ i) (h : i < l.length) : ∃ x, atI l i = some x ∧ x ∈ l := by
  refine ⟨l[i.toNat], atI_of (k := i.toNat) (by omega) (by rw [List.getElem?_eq_getElem]), List.getElem_mem _⟩
theorem E_gAdd_str (x y : Str) (S : Sto) (h : x.length + y.length ≤ sizeLine) : gAdd (.str x) (.str y) S = some (.str (x ++ y), S) := if_pos h
theorem E_gMul_str (x : Str) (n : Int) (S : Sto) (h : MulOk x n) : gMul (.str x) (.int n) S = some (.str (Txt.mul x n), S) := if_pos h
theorem E_gIx_str {x : Str} {i : Int} {c : Nat} (S : Sto) (hl : x.length ≤ sizeLine) (h : atI x.cps.toList i = some c) : gIx (.str x) (.int i) S = some (.str ⟨#[c]⟩, S) := by
  unfold gIx
  simp only
  rw [if_pos hl, h]
theorem len_app (x y : Str) : (x ++ y).length = x.length + y.length := by
  rw [TL.len_tl, TL.tl_append, List.length_append, ← TL.len_tl, ← TL.len_tl]
theorem one_len (c : Nat) : (⟨#[c]⟩ : Str).length = 1 := rfl
theorem cl_strs {n : Nat} {l : List D} (h : ∀ d ∈ l, ∃ x, d = .str x) : D.clBs n l = true := clBs_iff.mpr fun d hd => by
  obtain ⟨x, rfl⟩ := h d hd
  rfl
set_option maxHeartbeats 2000000 in
theorem text_ex {S : Sto} {t s : Nat} (T : Tp S t s) : ∃ (x : Str) (B : Sto), F__law_text [.ref t] S = some (.ok (.str x), B) ∧ x.length ≤ 14 ∧ Tp B t s ∧ Wr t S B := by
  obtain ⟨v, B, d1, a1, b1, T1, W1⟩ := draw_wr (m := 24) T (by decide)
  by_cases hv : v < 12
  · obtain ⟨L, hL⟩ : ∃ L : List Str, L = [Str.ofString "", Str.ofString "v1", Str.ofString "v2", Str.ofString "v3", Str.ofString "c1", Str.ofString "c2", Str.ofString " ", Str.ofString "null", Str.ofString "v01", Str.ofString "V1", Str.ofString "v10", Str.ofString "x"] := ⟨_, rfl⟩
    have h12 : L.length = 12 := by rw [hL]; rfl
    obtain ⟨x, hx, hm⟩ := get12 (l := L) a1 (by omega)
    have hxl : x.length ≤ 14 := by
      have h : ∀ y ∈ L, y.length ≤ 14 := by
        rw [hL]
        decide +kernel
      exact h x hm
    have hat : atI (L.map D.str) v = some (.str x) := by
      unfold atI at hx ⊢
      rw [List.length_map]
      cases e : ixN L.length v with
      | none => rw [e] at hx; cases hx
      | some k =>
        rw [e] at hx
        simp only [Option.bind_some, List.getElem?_map] at hx ⊢
        first
          | rw [hx]; rfl
          | simp [hx]
    have hg : gLst (L.map D.str) B = some (.ref B.length, B ++ [.lst (L.map D.str)]) := E_gLst _ (by rw [List.length_map, h12]; decide)
    refine ⟨x, B, gc_wr (T := [.lst (L.map D.str)]) W1 T1.cl ?_ rfl, hxl, T1, W1⟩
    rw [hL] at hg hat ⊢
    simp only [List.map_cons, List.map_nil] at hg hat ⊢
    simp [-E_gLst, m__law_text, d1, hv, hg, hat]
  · obtain ⟨n, C, d2, a2, b2, T2, W2⟩ := draw_wr (m := 1245456) T1 (by decide)
    have hC := W1.trans W2
    obtain ⟨M, hM⟩ : ∃ M : Str, M = Str.ofString " !#$&'()*+,-./0123456789:;<=>?@ABCDEFGHIJKLMNOPQRSTUVWXYZ[\\]^_`abcdefghijklmnopqrstuvwxyz{|}~" := ⟨_, rfl⟩
    have hl : M.cps.toList.length = 93 := by rw [hM]; decide +kernel
    have hl2 : M.length ≤ sizeLine := by
      have : M.length = 93 := by rw [hM]; decide +kernel
      have := line_big
      omega
    obtain ⟨c1, h1, -⟩ := get12 (l := M.cps.toList) (i := (n / 144) % 93) (by omega) (by omega)
    obtain ⟨c2, h2, -⟩ := get12 (l := M.cps.toList) (i := (n / 13392) % 93) (by omega) (by omega)
    have g1 := fun S => E_gIx_str S hl2 h1
    have g2 := fun S => E_gIx_str S hl2 h2
    obtain ⟨len, hlen⟩ : ∃ len, len = 1 + n % 12 := ⟨_, rfl⟩
    have len0 : 0 < len := by omega
    obtain ⟨pl, hpl⟩ : ∃ pl, pl = (n / 12) % len := ⟨_, rfl⟩
    have p0 : 0 ≤ pl := by rw [hpl]; exact Int.emod_nonneg _ (by omega)
    have p1 : pl < len := by rw [hpl]; exact Int.emod_lt_of_pos _ len0
    have m1 : MulOk ⟨#[c1]⟩ pl := mulOk_of 1 12 (Nat.le_refl _) (by omega) (by omega) (by decide) (by decide)
    have m2 : MulOk ⟨#[c1]⟩ (len - pl - 1) := mulOk_of 1 12 (Nat.le_refl _) (by omega) (by omega) (by decide) (by decide)
    have l1 : (Txt.mul ⟨#[c1]⟩ pl).length ≤ pl.toNat := len_mul_one (c := c1) rfl (by omega)
    have l2 : (Txt.mul ⟨#[c1]⟩ (len - pl - 1)).length ≤ (len - pl - 1).toNat := len_mul_one (c := c1) rfl (by omega)
    have e1 := fun S => E_gMul_str _ _ S m1
    have e2 := fun S => E_gMul_str _ _ S m2
    have lb := line_big
    have lc := one_len c2
    have s1 := fun S => E_gAdd_str (Txt.mul ⟨#[c1]⟩ pl) ⟨#[c2]⟩ S (by omega)
    have s2 := fun S => E_gAdd_str (Txt.mul ⟨#[c1]⟩ pl ++ ⟨#[c2]⟩) (Txt.mul ⟨#[c1]⟩ (len - pl - 1)) S (by rw [len_app]; omega)
    have f12 : ∀ S, gFdiv (.int n) (.int 12) S = some (.int (n / 12), S) := fun S => E_gFdiv _ _ ⟨by decide, by decide⟩
    have f144 : ∀ S, gFdiv (.int n) (.int 144) S = some (.int (n / 144), S) := fun S => E_gFdiv _ _ ⟨by decide, by decide⟩
    have f13 : ∀ S, gFdiv (.int n) (.int 13392) S = some (.int (n / 13392), S) := fun S => E_gFdiv _ _ ⟨by decide, by decide⟩
    refine ⟨Txt.mul ⟨#[c1]⟩ pl ++ ⟨#[c2]⟩ ++ Txt.mul ⟨#[c1]⟩ (len - pl - 1), C, gc_wr (T := []) hC T2.cl ?_ rfl, by rw [len_app, len_app]; omega, T2, hC⟩
    have len1 : 0 < 1 + n % 12 := by omega
    simp only [r__law_text, m__law_text, ← hM]
    generalize (⟨#[c1]⟩ : Str) = k1 at *
    generalize (⟨#[c2]⟩ : Str) = k2 at *
    rw [hpl, hlen] at e1 e2 s1 s2 ⊢
    simp [d1, hv, d2, f12, f144, f13, g1, g2, len1, e1, e2, s1, s2]
/-! in and not in -/
theorem inF_strs (t : Str) : ∀ C : List Str, inF (.str t) (C.map D.str) = decide (t ∈ C)
  | [] => rfl
  | c :: C => by
    have ih := inF_strs t C
    unfold inF at ih ⊢
    rw [List.map_cons, List.any_cons, ih]
    show ((c == t) || decide (t ∈ C)) = _
    by_cases h : t = c
    · subst h
      simp
    · have : (c == t) = false := by simpa using fun e => h e.symm
      simp [this, h]
theorem flat_strs : ∀ C : List Str, (C.map D.str).all D.flat = true
  | [] => rfl
  | c :: C => by rw [List.map_cons, List.all_cons, flat_strs C]; rfl
theorem inB_tup (t : Str) (C : List Str) (S : Sto) : inB (.str t) (.tup (C.map D.str)) S = some (decide (t ∈ C)) := by
  have : inB (.str t) (.tup (C.map D.str)) S = if (D.str t).flat = true ∧ (C.map D.str).all D.flat = true then some (inF (.str t) (C.map D.str)) else none := rfl
  rw [this, if_pos ⟨rfl, flat_strs C⟩, inF_strs]
theorem inB_ref (t : Str) (C : List Str) {S : Sto} {n : Nat} (h : seqOf (.ref n) S = some (C.map D.str)) : inB (.str t) (.ref n) S = some (decide (t ∈ C)) := by
  have : inB (.str t) (.ref n) S = match seqOf (.ref n) S with
    | some ds => if (D.str t).flat = true ∧ ds.all D.flat = true then some (inF (.str t) ds) else none
    | none => none := rfl
  rw [this, h]
  simp only
  rw [if_pos ⟨rfl, flat_strs C⟩, inF_strs]
theorem gNotIn_eq (a b : D) (S : Sto) : gNotIn a b S = blS ((inB a b S).map (!·)) S := rfl
theorem gIn_eq (a b : D) (S : Sto) : gIn a b S = blS (inB a b S) S := rfl
end LW
namespace DL
open PySem PySem.Spec PyProof.Rows L2 RT RZ
/-- a while whose turns are counted down -/
theorem whileD_rank {fc : Ev → Sto → Ans Bool} {fb : Ev → Sto → AnsS} (Inv : Nat → Ev → Sto → Prop) (Post : Ev → Sto → Prop)
    (step : ∀ k env S, Inv k env S → (fc env S = some (.ok false, S) ∧ Post env S) ∨ ∃ j env2 S2, k = j + 1 ∧ fc env S = some (.ok true, S) ∧ fb env S = some (.nx, env2, S2) ∧ Inv j env2 S2) :
    ∀ (k n : Nat) (env : Ev) (S : Sto), Inv k env S → k < n → ∃ env' S', whileD fc fb n env S = some (.nx, env', S') ∧ Post env' S'
  | k, 0, _, _, _, h => absurd h (Nat.not_lt_zero _)
  | k, n + 1, env, S, hI, hk => by
    unfold whileD
    rcases step k env S hI with ⟨h1, h2⟩ | ⟨j, env2, S2, rfl, h1, h2, h3⟩
    · rw [h1]
      exact ⟨env, S, rfl, h2⟩
    · obtain ⟨e', S', q1, q2⟩ := whileD_rank Inv Post step j n env2 S2 h3 (by omega)
      refine ⟨e', S', ?_, q2⟩
      rw [h1, bindS_okE, if_pos rfl, h2]
      exact q1
end DL
namespace LW
open PySem PySem.Spec PyProof.Rows L2 RT RZ DL
/-- a letter and a number -/
def num (k : Nat) : Str := Str.ofString (toString ((k : Nat) : Int))
def tx (a : Str) (k : Nat) : Str := a ++ num k
theorem tx_inj {a : Str} {j k : Nat} (h : tx a j = tx a k) : j = k := by
  have e := congrArg TL.tl h
  unfold tx num at e
  rw [TL.tl_append, TL.tl_append, List.append_cancel_left_eq, TL.tl_num, TL.tl_num] at e
  exact TL.numL_inj e
def gL (a : Str) (C : List Str) : Nat → List Str
  | 0 => []
  | N + 1 => if tx a (N + 1) ∈ C then gL a C N else gL a C N ++ [tx a (N + 1)]
theorem gL_mem {a : Str} {C : List Str} {x : Str} : ∀ {N : Nat}, x ∈ gL a C N → ∃ k, 1 ≤ k ∧ k ≤ N ∧ x = tx a k
  | 0, h => by cases h
  | N + 1, h => by
    unfold gL at h
    split at h
    · obtain ⟨k, h1, h2, h3⟩ := gL_mem h
      exact ⟨k, h1, by omega, h3⟩
    · rcases List.mem_append.mp h with h | h
      · obtain ⟨k, h1, h2, h3⟩ := gL_mem h
        exact ⟨k, h1, by omega, h3⟩
      · exact ⟨N + 1, by omega, Nat.le_refl _, List.mem_singleton.mp h⟩
/-- at most so many are left out as there are constants -/
theorem gL_erase {a : Str} {C : List Str} {k : Nat} : ∀ N, N < k → gL a (C.erase (tx a k)) N = gL a C N
  | 0, _ => rfl
  | N + 1, h => by
    have ne : tx a (N + 1) ≠ tx a k := fun e => by
      have := tx_inj e
      omega
    unfold gL
    rw [gL_erase N (by omega)]
    have : (tx a (N + 1) ∈ C.erase (tx a k)) ↔ tx a (N + 1) ∈ C := List.mem_erase_of_ne ne
    by_cases c : tx a (N + 1) ∈ C
    · rw [if_pos c, if_pos (this.mpr c)]
    · rw [if_neg c, if_neg fun q => c (this.mp q)]
theorem gL_len {a : Str} : ∀ (N : Nat) (C : List Str), N ≤ (gL a C N).length + C.length
  | 0, _ => Nat.zero_le _
  | N + 1, C => by
    unfold gL
    by_cases c : tx a (N + 1) ∈ C
    · rw [if_pos c, ← gL_erase (C := C) (k := N + 1) N (by omega)]
      have ih := gL_len (a := a) N (C.erase (tx a (N + 1)))
      rw [List.length_erase_of_mem c] at ih
      have : 0 < C.length := List.length_pos_of_mem c
      omega
    · rw [if_neg c, List.length_append, List.length_singleton]
      have ih := gL_len (a := a) N C
      omega
theorem gL_pre {a : Str} {C : List Str} {N : Nat} : ∀ k, ∃ t, gL a C (N + k) = gL a C N ++ t
  | 0 => ⟨[], by simp⟩
  | k + 1 => by
    obtain ⟨t, h⟩ := gL_pre (N := N) k
    have e : gL a C (N + k + 1) = if tx a (N + k + 1) ∈ C then gL a C (N + k) else gL a C (N + k) ++ [tx a (N + k + 1)] := rfl
    rw [show N + (k + 1) = N + k + 1 from rfl, e, h]
    split
    · exact ⟨t, rfl⟩
    · exact ⟨t ++ [tx a (N + k + 1)], by rw [List.append_assoc]⟩
def firstT (a : Str) (many : Nat) (C : List Str) : List Str := (gL a C (many + C.length)).take many
theorem firstT_of {a : Str} {C : List Str} {many N : Nat} (h : N ≤ many + C.length) (hl : (gL a C N).length = many) : firstT a many C = gL a C N := by
  obtain ⟨t, e⟩ := gL_pre (a := a) (C := C) (N := N) (many + C.length - N)
  unfold firstT
  rw [show N + (many + C.length - N) = many + C.length by omega] at e
  rw [e, ← hl, List.take_left']
  rfl
theorem tx_ok {a : Str} {k : Nat} (ha : a.length ≤ 100) (hk : k < 10 ^ 9) (S : Sto) : cStr [.int (k : Int)] S = some (.str (num k), S) ∧ gAdd (.str a) (.str (num k)) S = some (.str (tx a k), S) := by
  have hz : (num k).length ≤ 10 := by
    unfold num
    rw [PySem.ofString_length]
    exact int_text_length_le10 (k := 9) (by decide) (by simpa using hk)
  refine ⟨if_pos ?_, E_gAdd_str _ _ _ (by have := line_big; omega)⟩
  have := Nat.log2_le_self k
  have h2 : k.log2 ≤ 1000 := by
    by_cases h : k = 0
    · subst h
      decide
    · have := (Nat.log2_lt h).mpr (Nat.lt_of_lt_of_le hk (show 10 ^ 9 ≤ 2 ^ 40 by decide))
      omega
  show (Int.natAbs (k : Int)).log2 < 1920
  rw [Int.natAbs_natCast]
  omega
theorem cl_S (n : Nat) (L : List Str) : D.clBs n (L.map D.str) = true := clBs_strs n L
set_option maxHeartbeats 2000000 in
theorem numbered_eq {S : Sto} {a : Str} {C : List Str} {many : Nat} (hc : ClS S) (ha : a.length ≤ 100) (hm : many ≤ 1000) (hC : C.length ≤ 100) : F_numbered_texts [.str a, .int many, .tup (C.map D.str)] S = some (.ok (.tup ((firstT a many C).map D.str)), S) := by
  obtain ⟨env', S', h1, N, w, rfl, rfl, h2, h3⟩ := whileD_rank (fc := (dBl (dOp gLt (dCB cLen (dCons (dVar 3) dNil)) (dVar 1)))) (fb := (sSeq (sAug 4 gIAdd (dC (.int 1)))
    (sSeq (sAsg (.nm 5) (dOp gAdd (dVar 0) (dCB cStr (dCons (dVar 4) dNil))))
    (sIf (dBl (dOp gNotIn (dVar 5) (dVar 2))) (sExpr (dM "list" mAppend (dVar 3) (dCons (dVar 5) dNil))) sNext))))
    (fun r env S' => ∃ (N : Nat) (w : Option D), env = [some (.str a), some (.int many), some (.tup (C.map D.str)), some (.ref S.length), some (.int N), w] ∧ S' = S ++ [.lst ((gL a C N).map D.str)] ∧ (gL a C N).length ≤ many ∧ N + r = many + C.length)
    (fun env S' => ∃ (N : Nat) (w : Option D), env = [some (.str a), some (.int many), some (.tup (C.map D.str)), some (.ref S.length), some (.int N), w] ∧ S' = S ++ [.lst ((gL a C N).map D.str)] ∧ (gL a C N).length = many ∧ N ≤ many + C.length)
    (by
      rintro r env S' ⟨N, w, rfl, rfl, q1, q2⟩
      by_cases c : (gL a C N).length < many
      · right
        have pg := gL_len (a := a) N C
        obtain ⟨r, rfl⟩ : ∃ j, r = j + 1 := ⟨r - 1, by omega⟩
        obtain ⟨t1, t2⟩ := tx_ok (a := a) (k := N + 1) ha (by omega) (S ++ [.lst ((gL a C N).map D.str)])
        push_cast at t1 t2
        have hin := inB_tup (tx a (N + 1)) C (S ++ [.lst ((gL a C N).map D.str)])
        have hc2 : ((gL a C N).length : Int) < many := by omega
        have hs : (gL a C N).length < sizeLine := by have := line_big; omega
        by_cases ci : tx a (N + 1) ∈ C
        · have e : gL a C (N + 1) = gL a C N := if_pos ci
          refine ⟨r, [some (.str a), some (.int many), some (.tup (C.map D.str)), some (.ref S.length), some (.int ((N + 1 : Nat) : Int)), some (.str (tx a (N + 1)))], S ++ [.lst ((gL a C N).map D.str)], rfl, ?_, ?_, N + 1, _, rfl, by rw [e], by rw [e]; exact q1, by omega⟩
          · simp [hc2]
          · simp [t1, t2, gNotIn_eq, hin, ci]
        · have e : gL a C (N + 1) = gL a C N ++ [tx a (N + 1)] := if_neg ci
          refine ⟨r, [some (.str a), some (.int many), some (.tup (C.map D.str)), some (.ref S.length), some (.int ((N + 1 : Nat) : Int)), some (.str (tx a (N + 1)))], S ++ [.lst ((gL a C (N + 1)).map D.str)], rfl, ?_, ?_, N + 1, _, rfl, rfl, by rw [e, List.length_append]; simp; omega, by omega⟩
          · simp [hc2]
          · rw [e]
            simp [t1, t2, gNotIn_eq, hin, ci, hs]
      · left
        have hc2 : ¬ ((gL a C N).length : Int) < many := by omega
        refine ⟨?_, N, w, rfl, rfl, by omega, by omega⟩
        simp [hc2])
    (many + C.length) fuel [some (.str a), some (.int many), some (.tup (C.map D.str)), some (.ref S.length), some (.int 0), none] (S ++ [.lst []]) ⟨0, none, rfl, rfl, Nat.zero_le _, by omega⟩ (by have := fuel_ge; omega)
  rw [firstT_of h3 h2]
  refine gc_pure (T := [.lst ((gL a C N).map D.str)]) hc ?_ (by simp)
  simp [m_numbered_texts, h1]
theorem take_snoc {α : Type} (l : List α) (x : α) (m : Nat) : (l ++ [x]).take m = if l.length < m then l.take m ++ [x] else l.take m := by
  by_cases h : l.length < m
  · rw [if_pos h, List.take_of_length_le (by simp; omega), List.take_of_length_le (by omega)]
  · rw [if_neg h, List.take_append_of_le_length (by omega)]
set_option maxHeartbeats 2000000 in
theorem first_eq {S : Sto} {a : Str} {C : List Str} {many : Nat} (hc : ClS S) (ha : a.length ≤ 100) (hm : many ≤ 1000) (hC : C.length ≤ 100) : F__law_first [.str a, .int many, .tup (C.map D.str)] S = some (.ok (.tup ((firstT a many C).map D.str)), S) := by
  obtain ⟨env', S', h1, w4, w5, rfl, rfl⟩ := forD_all (ok := fun _ => True) (t := .nm 4) (fb := (sSeq (sAsg (.nm 5) (dOp gAdd (dVar 0) (dCB cStr (dCons (dVar 4) dNil))))
    (sIf (dAnd (dBl (dOp gNotIn (dVar 5) (dVar 2))) (dBl (dOp gLt (dCB cLen (dCons (dVar 3) dNil)) (dVar 1)))) (sExpr (dM "list" mAppend (dVar 3) (dCons (dVar 5) dNil))) sNext)))
    (fun j env S' => ∃ w4 w5, env = [some (.str a), some (.int many), some (.tup (C.map D.str)), some (.ref S.length), w4, w5] ∧ S' = S ++ [.lst (((gL a C j).take many).map D.str)]) (rangeL 1 (many + C.length)) [some (.str a), some (.int many), some (.tup (C.map D.str)), some (.ref S.length), none, none] (S ++ [.lst []]) (fun _ _ _ _ _ => trivial) ⟨_, _, rfl, by simp [gL]⟩ (by
      rintro j x env S' hx ⟨w4, w5, rfl, rfl⟩
      obtain ⟨hj, rfl⟩ := rangeL_get hx
      obtain ⟨t1, t2⟩ := tx_ok (a := a) (k := j + 1) ha (by omega) (S ++ [.lst (((gL a C j).take many).map D.str)])
      have hin := inB_tup (tx a (j + 1)) C (S ++ [.lst (((gL a C j).take many).map D.str)])
      rw [show (1 : Int) + j = ((j + 1 : Nat) : Int) by omega]
      refine ⟨_, _, S ++ [.lst (((gL a C (j + 1)).take many).map D.str)], rfl, ?_, some (.int ((j + 1 : Nat) : Int)), some (.str (tx a (j + 1))), rfl, rfl⟩
      push_cast at t1 t2
      by_cases ci : tx a (j + 1) ∈ C
      · have e : gL a C (j + 1) = gL a C j := if_pos ci
        rw [e]
        generalize (gL a C j).take many = R at *
        simp [t1, t2, gNotIn_eq, hin, ci]
      · have e : gL a C (j + 1) = gL a C j ++ [tx a (j + 1)] := if_neg ci
        rw [e, take_snoc]
        have hl : ((gL a C j).take many).length = min many (gL a C j).length := List.length_take
        by_cases c : (gL a C j).length < many
        · rw [if_pos c]
          have hc2 : (((gL a C j).take many).length : Int) < many := by omega
          have hs : ((gL a C j).take many).length < sizeLine := by have := line_big; omega
          generalize (gL a C j).take many = R at *
          simp [t1, t2, gNotIn_eq, hin, ci, hc2, hs]
        · rw [if_neg c]
          have hc2 : ¬ (((gL a C j).take many).length : Int) < many := by omega
          generalize (gL a C j).take many = R at *
          simp [t1, t2, gNotIn_eq, hin, ci, hc2])
  rw [rangeL_len] at h1
  refine gc_pure (T := [.lst ((firstT a many C).map D.str)]) hc ?_ (by simp)
  have r1 : RgB 1 := .of (by omega)
  have r2 : RgB ((many : Int) + C.length + 1) := .of (by omega)
  have e : ((many : Int) + C.length).toNat = many + C.length := by omega
  unfold firstT
  generalize (gL a C (many + C.length)).take many = R at *
  simp [m__law_first, r1, r2, e, h1]
end LW
namespace LW
open PySem PySem.Spec PyProof.Rows L2 RT RZ DL
@[simp] theorem pys_strs : ∀ is : List Str, D.pys (is.map D.str) = some (is.map PyData.str)
  | [] => rfl
  | i :: is => by simp [D.pys, D.py, pys_strs is]
theorem eqvAll_strs : ∀ a b : List Str, PyData.eqvAll (a.map PyData.str) (b.map PyData.str) = decide (a = b)
  | [], [] => by simp [PyData.eqvAll]
  | [], _ :: _ => by simp [PyData.eqvAll]
  | _ :: _, [] => by simp [PyData.eqvAll]
  | x :: a, y :: b => by
    simp only [List.map_cons, PyData.eqvAll, PyData.eqv, eqvAll_strs a b]
    rw [Bool.eq_iff_iff]
    simp
theorem lay_strs : ∀ a : List Str, (∀ x ∈ a, PyData.strOk x = true) → PyData.canLayAll0 (a.map PyData.str) = true
  | [], _ => by simp [PyData.canLayAll0]
  | x :: a, h => by simp [PyData.canLayAll0, PyData.canLay0, lay_strs a fun y hy => h y (List.mem_cons_of_mem _ hy), h x List.mem_cons_self]
theorem depth_strs : ∀ a : List Str, PyData.depthAll (a.map PyData.str) = 0
  | [] => by simp [PyData.depthAll]
  | _ :: a => by simp [PyData.depthAll, PyData.depth, depth_strs a]
theorem shaped_strs {a : List Str} (h : ∀ x ∈ a, PyData.strOk x = true) : SeqAt.shaped (.tuple (a.map PyData.str)) = true := by
  simp [SeqAt.shaped, PyData.canLay0, PyData.depth, lay_strs a h, depth_strs]
theorem eqB_strs {a b : List Str} (S : Sto) (ha : ∀ x ∈ a, PyData.strOk x = true) (hb : ∀ x ∈ b, PyData.strOk x = true) : eqB (.tup (a.map D.str)) (.tup (b.map D.str)) S = some (decide (a = b)) := by
  simp [eqB, deepEq, toPy, D.py, shaped_strs ha, shaped_strs hb, PyData.eqv, eqvAll_strs]
theorem strOk_iff (x : Str) : PyData.strOk x = true ↔ ∀ c ∈ TL.tl x, c < 0x110000 := by
  unfold PyData.strOk
  rw [← Array.all_toList, List.all_eq_true]
  simp
theorem strOk_app {x y : Str} (hx : PyData.strOk x = true) (hy : PyData.strOk y = true) : PyData.strOk (x ++ y) = true := by
  rw [strOk_iff] at *
  intro c hc
  rw [TL.tl_append] at hc
  rcases List.mem_append.mp hc with h | h
  · exact hx c h
  · exact hy c h
theorem strOk_num (k : Nat) : PyData.strOk (num k) = true := by
  rw [strOk_iff]
  intro c hc
  unfold num at hc
  rw [TL.tl_num] at hc
  have := TL.numL_digits k c hc
  omega
theorem strOk_first {a : Str} {many : Nat} {C : List Str} (ha : PyData.strOk a = true) : ∀ x ∈ firstT a many C, PyData.strOk x = true := fun x hx => by
  obtain ⟨k, -, -, rfl⟩ := gL_mem (List.mem_of_mem_take hx)
  exact strOk_app ha (strOk_num k)
theorem str1_len : (Str.ofString "v").length = 1 ∧ (Str.ofString "c").length = 1 := by decide +kernel
theorem Wr.split {t s : Nat} {B T C : Sto} (h : Tp B t s) (w : Wr t (B ++ T) C) (g : Tp C t s) : ∃ B', C = B' ++ T ∧ Wr t B B' ∧ Tp B' t s := by
  obtain ⟨q, rfl⟩ := w
  have e : (B ++ T).set t (.lst q) = B.set t (.lst q) ++ T := List.set_append_left _ _ h.lt
  refine ⟨_, e, ⟨q, rfl⟩, ?_⟩
  rw [e] at g
  have lt2 : t < (B.set t (.lst q)).length := by rw [List.length_set]; exact h.lt
  obtain ⟨p, n, u, ht, hp⟩ := g.tape
  rw [List.getElem?_append_left lt2] at ht
  have ht2 := ht
  rw [List.getElem?_set_self h.lt] at ht2
  cases ht2
  obtain ⟨ns, hs⟩ := h.src
  exact ⟨⟨p, n, u, ht, hp⟩, ⟨ns, by rw [List.getElem?_set_ne h.ne]; exact hs⟩, h.ne, h.cl.set (by simp [O.items, h.srclt])⟩
theorem text_app {B T : Sto} {t s : Nat} (h : Tp B t s) (c : ClS (B ++ T)) : ∃ (x : Str) (B' : Sto), F__law_text [.ref t] (B ++ T) = some (.ok (.str x), B' ++ T) ∧ x.length ≤ 14 ∧ Tp B' t s ∧ Wr t B B' ∧ ClS (B' ++ T) := by
  obtain ⟨x, C, h1, h2, h3, h4⟩ := text_ex (h.app c)
  obtain ⟨B', rfl, w, g⟩ := Wr.split h h4 h3
  exact ⟨x, B', h1, h2, g, w, h3.cl⟩
theorem mid_get {D : Sto} {o : O} {J : Sto} {n : Nat} (h : D.length = n) : (D ++ (o :: J))[n]? = some o := by
  subst h
  simp
theorem mid_set {D : Sto} {o u : O} {J : Sto} {n : Nat} (h : D.length = n) : (D ++ (o :: J)).set n u = D ++ (u :: J) := by
  subst h
  rw [List.set_append_right _ _ (Nat.le_refl _), Nat.sub_self]
  rfl
set_option maxHeartbeats 2000000 in
theorem known_ex {S : Sto} {t s : Nat} (T : Tp S t s) : ∃ (C : List Str) (B : Sto), F__law_known [.ref t, .int 12] S = some (.ok (.tup (C.map D.str)), B) ∧ C.length ≤ 12 ∧ Tp B t s ∧ Wr t S B := by
  have cZ : ClS (S ++ [.lst []]) := T.cl.app (by simp [O.items])
  obtain ⟨v, B, d1, a1, b1, T1, W1, cB⟩ := draw_app (m := 13) T cZ (by decide)
  obtain ⟨n, rfl⟩ : ∃ n : Nat, v = n := ⟨v.toNat, by omega⟩
  have hlB := W1.len
  obtain ⟨env', S', h1, w3, w4, w5, L, D0, J, rfl, rfl, T2, W2, c2, hL⟩ := forD_all (ok := fun _ => True) (t := .nm 3) (fb := (sSeq (sAsg (.nm 4) (dCall F__law_draw (dCons (dVar 0) (dCons (dC (.int 56)) dNil))))
    (sSeq (sAsg (.nm 5) (dOp gAdd (dOp gIx (dCB gLst (dCons (dC (.str (Str.ofString "v"))) (dCons (dC (.str (Str.ofString "c"))) dNil))) (dOp gMod (dCB cInt (dCons (dVar 4) dNil)) (dC (.int 2)))) (dCB cStr (dCons (dOp gAdd (dC (.int 1)) (dCB cInt (dCons (dOp gFdiv (dVar 4) (dC (.int 4))) dNil))) dNil))))
    (sSeq (sIf (dBl (dOp gEq (dOp gMod (dCB cInt (dCons (dOp gFdiv (dVar 4) (dC (.int 2))) dNil)) (dC (.int 2))) (dC (.int 0)))) (sAsg (.nm 5) (dCall F__law_text (dCons (dVar 0) dNil))) sNext)
    (sIf (dBl (dOp gNotIn (dVar 5) (dVar 2))) (sExpr (dM "list" mAppend (dVar 2) (dCons (dVar 5) dNil))) sNext)))))
    (fun j env S' => ∃ (w3 w4 w5 : Option D) (L : List Str) (D0 : Sto) (J : Sto), env = [some (.ref t), some (.int 12), some (.ref S.length), w3, w4, w5] ∧ S' = D0 ++ (.lst (L.map D.str) :: J) ∧ Tp D0 t s ∧ Wr t S D0 ∧ ClS (D0 ++ (.lst (L.map D.str) :: J)) ∧ L.length ≤ j) (rangeL 0 n) [some (.ref t), some (.int 12), some (.ref S.length), none, none, none] (B ++ [.lst []]) (fun _ _ _ _ _ => trivial) ⟨_, _, _, [], B, [], rfl, rfl, T1, W1, cB, Nat.zero_le _⟩ (by
      rintro j x env S' hx ⟨w3, w4, w5, L, D0, J, rfl, rfl, T2, W2, c2, hL⟩
      obtain ⟨hj, rfl⟩ := rangeL_at hx
      obtain ⟨u, D1, e1, u0, u1, T3, W3, c3⟩ := draw_app (m := 56) T2 c2 (by decide)
      obtain ⟨k, hk⟩ : ∃ k : Nat, u / 4 = k := ⟨(u / 4).toNat, by omega⟩
      obtain ⟨Y1, hY1⟩ : ∃ Y1, Y1 = D1 ++ (.lst (L.map D.str) :: J) := ⟨_, rfl⟩
      obtain ⟨Y2, hY2⟩ : ∃ Y2, Y2 = Y1 ++ [.lst [.str (Str.ofString "v"), .str (Str.ofString "c")]] := ⟨_, rfl⟩
      have hY2' : Y2 = D1 ++ (.lst (L.map D.str) :: (J ++ [.lst [.str (Str.ofString "v"), .str (Str.ofString "c")]])) := by rw [hY2, hY1]; simp
      have c4 : ClS Y2 := by rw [hY2, hY1]; exact c3.app (by simp [O.items])
      rw [← hY1] at e1
      have hg : gLst [.str (Str.ofString "v"), .str (Str.ofString "c")] Y1 = some (.ref Y1.length, Y2) := by rw [hY2]; exact E_gLst _ (by decide)
      have hs2 : seqOf (.ref Y1.length) Y2 = some [.str (Str.ofString "v"), .str (Str.ofString "c")] := by rw [hY2]; exact seq_last _ _
      obtain ⟨le, hle, l1⟩ : ∃ le : Str, atI [D.str (Str.ofString "v"), .str (Str.ofString "c")] (u % 2) = some (.str le) ∧ le.length ≤ 100 := by
        have : u % 2 = 0 ∨ u % 2 = 1 := by omega
        rcases this with e | e
        · rw [e]
          exact ⟨_, rfl, by rw [str1_len.1]; omega⟩
        · rw [e]
          exact ⟨_, rfl, by rw [str1_len.2]; omega⟩
      obtain ⟨t1, t2⟩ := tx_ok (a := le) (k := k + 1) l1 (by omega) Y2
      push_cast at t1 t2
      have hk1 : (1 : Int) + u / 4 = ((k + 1 : Nat) : Int) := by omega
      have f4 : ∀ S, gFdiv (.int u) (.int 4) S = some (.int (u / 4), S) := fun S => E_gFdiv _ _ ⟨by decide, by decide⟩
      have f2 : ∀ S, gFdiv (.int u) (.int 2) S = some (.int (u / 2), S) := fun S => E_gFdiv _ _ ⟨by decide, by decide⟩
      -- the text that is taken
      obtain ⟨y, D3, hif, T5, W5, c5⟩ : ∃ (y : Str) (D3 : Sto), (sIf (dBl (dOp gEq (dOp gMod (dCB cInt (dCons (dOp gFdiv (dVar 4) (dC (.int 2))) dNil)) (dC (.int 2))) (dC (.int 0)))) (sAsg (.nm 5) (dCall F__law_text (dCons (dVar 0) dNil))) sNext) [some (.ref t), some (.int 12), some (.ref S.length), some (.int j), some (.int u), some (.str (tx le (k + 1)))] Y2 = some (.nx, [some (.ref t), some (.int 12), some (.ref S.length), some (.int j), some (.int u), some (.str y)], D3 ++ (.lst (L.map D.str) :: (J ++ [.lst [.str (Str.ofString "v"), .str (Str.ofString "c")]]))) ∧ Tp D3 t s ∧ Wr t S D3 ∧ ClS (D3 ++ (.lst (L.map D.str) :: (J ++ [.lst [.str (Str.ofString "v"), .str (Str.ofString "c")]]))) := by
        by_cases c : u / 2 % 2 = 0
        · obtain ⟨y, D3, e5, -, T5, W5, c5⟩ := text_app T3 (by rw [← hY2']; exact c4)
          rw [← hY2'] at e5
          refine ⟨y, D3, ?_, T5, (W2.trans W3).trans W5, c5⟩
          simp [f2, c, e5]
        · refine ⟨tx le (k + 1), D1, ?_, T3, W2.trans W3, by rw [← hY2']; exact c4⟩
          rw [← hY2']
          simp [f2, c]
      obtain ⟨J2, hJ2⟩ : ∃ J2, J2 = J ++ [O.lst [.str (Str.ofString "v"), .str (Str.ofString "c")]] := ⟨_, rfl⟩
      rw [← hJ2] at hif c5
      have g0 : (D3 ++ (.lst (L.map D.str) :: J2))[S.length]? = some (.lst (L.map D.str)) := mid_get W5.len
      have sq := seq_lst g0
      have hin := inB_ref y L sq
      have tyl : (seqOf (.ref S.length) (D3 ++ (.lst (L.map D.str) :: J2))).isSome = true := by rw [sq]; rfl
      have st := fun u => mid_set (D := D3) (o := .lst (L.map D.str)) (u := u) (J := J2) W5.len
      by_cases c : y ∈ L
      · refine ⟨_, _, D3 ++ (.lst (L.map D.str) :: J2), rfl, ?_, some (.int j), some (.int u), some (.str y), L, D3, J2, rfl, rfl, T5, W5, c5, by omega⟩
        generalize (sIf (dBl (dOp gEq (dOp gMod (dCB cInt (dCons (dOp gFdiv (dVar 4) (dC (.int 2))) dNil)) (dC (.int 2))) (dC (.int 0)))) (sAsg (.nm 5) (dCall F__law_text (dCons (dVar 0) dNil))) sNext) = g at hif ⊢
        generalize D3 ++ (.lst (L.map D.str) :: J2) = Y3 at *
        simp [-E_gLst, e1, hg, hs2, hle, f4, hk1, t1, t2, hif, gNotIn_eq, hin, c]
      · have c6 : ClS (D3 ++ (.lst ((L ++ [y]).map D.str) :: J2)) := by
          rw [← st]
          exact c5.set (clBs_strs _ _)
        refine ⟨_, _, D3 ++ (.lst ((L ++ [y]).map D.str) :: J2), rfl, ?_, some (.int j), some (.int u), some (.str y), L ++ [y], D3, J2, rfl, rfl, T5, W5, c6, by simp; omega⟩
        generalize (sIf (dBl (dOp gEq (dOp gMod (dCB cInt (dCons (dOp gFdiv (dVar 4) (dC (.int 2))) dNil)) (dC (.int 2))) (dC (.int 0)))) (sAsg (.nm 5) (dCall F__law_text (dCons (dVar 0) dNil))) sNext) = g at hif ⊢
        have hz : L.length < sizeLine := by have := line_big; omega
        rw [← st]
        generalize D3 ++ (.lst (L.map D.str) :: J2) = Y3 at *
        simp [-E_gLst, e1, hg, hs2, hle, f4, hk1, t1, t2, hif, gNotIn_eq, hin, c, tyl, g0, hz])
  rw [rangeL_len] at hL
  have g0 : (D0 ++ (.lst (L.map D.str) :: J))[S.length]? = some (.lst (L.map D.str)) := mid_get W2.len
  have sq := seq_lst g0
  have hl : (sortS L).length = L.length := List.length_mergeSort ..
  have r : RgB (n : Int) := .of (by omega)
  have l64 : L.length < 64 := by omega
  refine ⟨sortS L, D0, gc_wr (T := .lst (L.map D.str) :: J ++ [.lst ((sortS L).map D.str)]) W2 T2.cl ?_ (by simp), by omega, T2, W2⟩
  have e : D0 ++ (O.lst (L.map D.str) :: J ++ [.lst ((sortS L).map D.str)]) = D0 ++ (O.lst (L.map D.str) :: J) ++ [.lst ((sortS L).map D.str)] := by simp
  rw [e]
  have hso : cSortedS [.ref S.length] (D0 ++ (O.lst (L.map D.str) :: J)) = some (.ref (D0 ++ (O.lst (L.map D.str) :: J)).length, D0 ++ (O.lst (L.map D.str) :: J) ++ [.lst ((sortS L).map D.str)]) := by
    unfold cSortedS
    simp only [sq, strsOf_map]
    rw [if_pos l64]
  generalize D0 ++ (O.lst (L.map D.str) :: J) = Y at *
  simp [m__law_known, d1, r, h1, hso]
set_option maxHeartbeats 2000000 in
theorem law_true (ns : List Int) (hl : ns.length ≤ 63) : ∃ S', F_law [.ref 0] [.rol (ns.map D.int)] = some (.ok (.bl true), S') := by
  obtain ⟨q, t1, T1⟩ := tape_ex ns
  generalize [O.rol (ns.map D.int), .lst (ns.map D.int), .lst q] = S1 at *
  obtain ⟨v, A, d1, a1, b1, T2, -⟩ := draw_wr (m := 13) T1 (by decide)
  obtain ⟨w, B, d2, -, -, T3, -⟩ := draw_wr (m := 8) T2 (by decide)
  obtain ⟨many, B2, hif, T4, hm⟩ : ∃ (many : Nat) (B2 : Sto), (sIf (dBl (dOp gEq (dCall F__law_draw (dCons (dVar 1) (dCons (dC (.int 8)) dNil))) (dC (.int 0)))) (sAsg (.nm 2) (dOp gAdd (dC (.int 290)) (dCall F__law_draw (dCons (dVar 1) (dCons (dC (.int 11)) dNil))))) sNext) [some (.ref 0), some (.ref 2), some (.int v), none] A = some (.nx, [some (.ref 0), some (.ref 2), some (.int many), none], B2) ∧ Tp B2 2 1 ∧ many ≤ 1000 := by
    by_cases h : w = 0
    · subst h
      obtain ⟨u, B2, d3, a3, b3, T4, -⟩ := draw_wr (m := 11) T3 (by decide)
      refine ⟨(290 + u).toNat, B2, ?_, T4, by omega⟩
      have e : (((290 + u).toNat : Nat) : Int) = 290 + u := by omega
      rw [e]
      simp [d2, d3]
    · refine ⟨v.toNat, B, ?_, T3, by omega⟩
      have e : ((v.toNat : Nat) : Int) = v := by omega
      rw [e]
      simp [d2, h]
  obtain ⟨C, E, d4, hC, T5, -⟩ := known_ex T4
  have hv : (Str.ofString "v").length ≤ 100 := by rw [str1_len.1]; omega
  have hc : (Str.ofString "c").length ≤ 100 := by rw [str1_len.2]; omega
  have n1 := numbered_eq (many := many) (C := C) T5.cl hv hm (by omega)
  have n2 := numbered_eq (many := many) (C := C) T5.cl hc hm (by omega)
  have n3 := numbered_eq (many := many) (C := []) T5.cl hv hm (by simp)
  have n4 := numbered_eq (many := many) (C := []) T5.cl hc hm (by simp)
  have m1 := first_eq (many := many) (C := C) T5.cl hv hm (by omega)
  have m2 := first_eq (many := many) (C := C) T5.cl hc hm (by omega)
  have m3 := first_eq (many := many) (C := []) T5.cl hv hm (by simp)
  have m4 := first_eq (many := many) (C := []) T5.cl hc hm (by simp)
  have eqv : ∀ (C : List Str) (S : Sto), eqB (.tup ((firstT (Str.ofString "v") many C).map D.str)) (.tup ((firstT (Str.ofString "v") many C).map D.str)) S = some true := fun C S => by
    have := strOk_first (many := many) (C := C) (show PyData.strOk (Str.ofString "v") = true by decide +kernel)
    rw [eqB_strs S this this]
    simp
  have eqc : ∀ (C : List Str) (S : Sto), eqB (.tup ((firstT (Str.ofString "c") many C).map D.str)) (.tup ((firstT (Str.ofString "c") many C).map D.str)) S = some true := fun C S => by
    have := strOk_first (many := many) (C := C) (show PyData.strOk (Str.ofString "c") = true by decide +kernel)
    rw [eqB_strs S this this]
    simp
  have smp : ∀ (c : List Str), F_numbered_texts [.str (Str.ofString "v"), .int many, .tup (c.map D.str)] E = some (.ok (.tup ((firstT (Str.ofString "v") many c).map D.str)), E) → F_sample_texts [.int many, .tup (c.map D.str)] E = some (.ok (.tup ((firstT (Str.ofString "v") many c).map D.str)), E) := fun c h => by
    refine gc_pure (T := []) T5.cl ?_ (by simp)
    simp [m_sample_texts, h]
  have spa : ∀ (c : List Str), F_numbered_texts [.str (Str.ofString "c"), .int many, .tup (c.map D.str)] E = some (.ok (.tup ((firstT (Str.ofString "c") many c).map D.str)), E) → F_spare_texts [.int many, .tup (c.map D.str)] E = some (.ok (.tup ((firstT (Str.ofString "c") many c).map D.str)), E) := fun c h => by
    refine gc_pure (T := []) T5.cl ?_ (by simp)
    simp [m_spare_texts, h]
  have s1 := smp C n1
  have s2 := spa C n2
  have s3 := smp [] n3
  have s4 := spa [] n4
  refine ⟨E, ?_⟩
  have z0 : (0 : Nat) ≤ sizeLine := Nat.zero_le _
  simp only [F_law, r_law, m_law]
  generalize (sIf (dBl (dOp gEq (dCall F__law_draw (dCons (dVar 1) (dCons (dC (.int 8)) dNil))) (dC (.int 0)))) (sAsg (.nm 2) (dOp gAdd (dC (.int 290)) (dCall F__law_draw (dCons (dVar 1) (dCons (dC (.int 11)) dNil))))) sNext) = g at hif ⊢
  simp only [List.map_nil] at s3 s4 m3 m4
  simp [t1, d1, hif, d4, s1, s2, s3, s4, m1, m2, m3, m4, eqv, eqc]
end LW
namespace LW
open PySem PySem.Spec PyProof.Rows L2 RT RZ DL
theorem all_mk {l : PySem.W.OpenLaw} {w : World} {K : PySem.W.Frag} {h : Heap} {mg : Str → Option Value} {fa f0 f1 f2 f3 f4 f5 f6 f7 f8 : Addr} (X : K.In h) (G : h.Ns mainGlobals mg) (hfa : mg "law" = some (.ref fa))
    {kD1 kT1 kD2 kT2 : Addr} {oe1 oe2 : Option Addr} {kn1 kn2 : Nat} {se1 se2 : Array (Option Value)}
    {od0 an0 od1 an1 od2 an2 od3 an3 od4 an4 od5 an5 od6 an6 od7 an7 od8 an8 : Option Addr} {sl0 sl1 sl2 sl3 sl4 sl5 sl6 sl7 sl8 : Array (Option Value)} {oc0 kV0 dc0 pm0 cd0 ct0 oc1 dc1 pm1 cd1 ct1 oc2 dc2 pm2 cd2 ct2 oc3 kV3 dc3 pm3 cd3 ct3 oc4 kV4 dc4 pm4 cd4 ct4 oc5 kV5 dc5 pm5 cd5 ct5 oc6 kV6 dc6 pm6 cd6 ct6 oc7 kV7 dc7 pm7 cd7 ct7 oc8 kV8 dc8 pm8 cd8 ct8 : Value}
    (a0 : PySem.W.nsIn K mainGlobals "numbered_texts" = some (some (.ref f0))) (l0 : K.lookup f0 = some ⟨oc0, od0, .func (PySem.W.fnOf "numbered_texts" "numbered_texts" (defArgs s_numbered_texts) (defBody s_numbered_texts) (defScope s_numbered_texts) .none kV0 dc0 pm0 an0 cd0 ct0), sl0⟩) (c0 : PySem.W.codeIn K cd0 "numbered_texts" = true) (k0 : PySem.W.keepIn K (.ref f0) = true)
    (a1 : PySem.W.nsIn K mainGlobals "sample_texts" = some (some (.ref f1))) (l1 : K.lookup f1 = some ⟨oc1, od1, .func (PySem.W.fnOf "sample_texts" "sample_texts" (defArgs s_sample_texts) (defBody s_sample_texts) (defScope s_sample_texts) .none (.ref kD1) dc1 pm1 an1 cd1 ct1), sl1⟩) (c1 : PySem.W.codeIn K cd1 "sample_texts" = true) (k1 : PySem.W.keepIn K (.ref f1) = true) (n1 : PySem.W.nsIn K kD1 "but" = some (some (.ref kT1))) (t1 : K.lookup kT1 = some ⟨.type "tuple", oe1, .seq #[] kn1, se1⟩)
    (a2 : PySem.W.nsIn K mainGlobals "spare_texts" = some (some (.ref f2))) (l2 : K.lookup f2 = some ⟨oc2, od2, .func (PySem.W.fnOf "spare_texts" "spare_texts" (defArgs s_spare_texts) (defBody s_spare_texts) (defScope s_spare_texts) .none (.ref kD2) dc2 pm2 an2 cd2 ct2), sl2⟩) (c2 : PySem.W.codeIn K cd2 "spare_texts" = true) (k2 : PySem.W.keepIn K (.ref f2) = true) (n2 : PySem.W.nsIn K kD2 "but" = some (some (.ref kT2))) (t2 : K.lookup kT2 = some ⟨.type "tuple", oe2, .seq #[] kn2, se2⟩)
    (a3 : PySem.W.nsIn K mainGlobals "_law_tape" = some (some (.ref f3))) (l3 : K.lookup f3 = some ⟨oc3, od3, .func (PySem.W.fnOf "_law_tape" "_law_tape" (defArgs s__law_tape) (defBody s__law_tape) (defScope s__law_tape) .none kV3 dc3 pm3 an3 cd3 ct3), sl3⟩) (c3 : PySem.W.codeIn K cd3 "_law_tape" = true) (k3 : PySem.W.keepIn K (.ref f3) = true)
    (a4 : PySem.W.nsIn K mainGlobals "_law_draw" = some (some (.ref f4))) (l4 : K.lookup f4 = some ⟨oc4, od4, .func (PySem.W.fnOf "_law_draw" "_law_draw" (defArgs s__law_draw) (defBody s__law_draw) (defScope s__law_draw) .none kV4 dc4 pm4 an4 cd4 ct4), sl4⟩) (c4 : PySem.W.codeIn K cd4 "_law_draw" = true) (k4 : PySem.W.keepIn K (.ref f4) = true)
    (a5 : PySem.W.nsIn K mainGlobals "_law_text" = some (some (.ref f5))) (l5 : K.lookup f5 = some ⟨oc5, od5, .func (PySem.W.fnOf "_law_text" "_law_text" (defArgs s__law_text) (defBody s__law_text) (defScope s__law_text) .none kV5 dc5 pm5 an5 cd5 ct5), sl5⟩) (c5 : PySem.W.codeIn K cd5 "_law_text" = true) (k5 : PySem.W.keepIn K (.ref f5) = true)
    (a6 : PySem.W.nsIn K mainGlobals "_law_known" = some (some (.ref f6))) (l6 : K.lookup f6 = some ⟨oc6, od6, .func (PySem.W.fnOf "_law_known" "_law_known" (defArgs s__law_known) (defBody s__law_known) (defScope s__law_known) .none kV6 dc6 pm6 an6 cd6 ct6), sl6⟩) (c6 : PySem.W.codeIn K cd6 "_law_known" = true) (k6 : PySem.W.keepIn K (.ref f6) = true)
    (a7 : PySem.W.nsIn K mainGlobals "_law_first" = some (some (.ref f7))) (l7 : K.lookup f7 = some ⟨oc7, od7, .func (PySem.W.fnOf "_law_first" "_law_first" (defArgs s__law_first) (defBody s__law_first) (defScope s__law_first) .none kV7 dc7 pm7 an7 cd7 ct7), sl7⟩) (c7 : PySem.W.codeIn K cd7 "_law_first" = true) (k7 : PySem.W.keepIn K (.ref f7) = true)
    (a8 : PySem.W.nsIn K mainGlobals "law" = some (some (.ref f8))) (l8 : K.lookup f8 = some ⟨oc8, od8, .func (PySem.W.fnOf "law" "law" (defArgs s_law) (defBody s_law) (defScope s_law) .none kV8 dc8 pm8 an8 cd8 ct8), sl8⟩) (c8 : PySem.W.codeIn K cd8 "law" = true) (k8 : PySem.W.keepIn K (.ref f8) = true)
    (z_tuple : PySem.W.nsIn K mainGlobals "tuple" = some none) (z_len : PySem.W.nsIn K mainGlobals "len" = some none) (z_str : PySem.W.nsIn K mainGlobals "str" = some none) (z_list : PySem.W.nsIn K mainGlobals "list" = some none) (z_int : PySem.W.nsIn K mainGlobals "int" = some none) (z_abs : PySem.W.nsIn K mainGlobals "abs" = some none) (z_max : PySem.W.nsIn K mainGlobals "max" = some none) (z_sorted : PySem.W.nsIn K mainGlobals "sorted" = some none) (z_range : PySem.W.nsIn K mainGlobals "range" = some none) :
    ∃ fd : FuncData, (∀ (s : Shared) (v : Value), BindsTo s fd ⟨[v], []⟩ [("_law_script", v)]) ∧ ∀ base : Heap, K.In base → base.Ns mainGlobals mg → FnOk l.prog w K mg base (L2.CX l.prog w) 4 fa fd ["_law_script"] (spLaw K) := by
  have e := hfa.symm.trans (PySem.W.mg_of X G a8)
  cases e
  have T : Txt mg := ⟨PySem.W.mg_none_of X G z_tuple, PySem.W.mg_none_of X G z_len, PySem.W.mg_none_of X G z_str, PySem.W.mg_none_of X G z_list, PySem.W.mg_none_of X G z_int, PySem.W.mg_none_of X G z_abs, PySem.W.mg_none_of X G z_max, PySem.W.mg_none_of X G z_sorted, PySem.W.mg_none_of X G z_range⟩
  have F0 := fun_mk (st := s_numbered_texts) l0 c0 k0
  have F1 := fun_mk (st := s_sample_texts) l1 c1 k1
  have F2 := fun_mk (st := s_spare_texts) l2 c2 k2
  have F3 := fun_mk (st := s__law_tape) l3 c3 k3
  have F4 := fun_mk (st := s__law_draw) l4 c4 k4
  have F5 := fun_mk (st := s__law_text) l5 c5 k5
  have F6 := fun_mk (st := s__law_known) l6 c6 k6
  have F7 := fun_mk (st := s__law_first) l7 c7 k7
  have F8 := fun_mk (st := s_law) l8 c8 k8
  refine ⟨PySem.W.fnOf "law" "law" (defArgs s_law) (defBody s_law) (defScope s_law) .none kV8 dc8 pm8 an8 cd8 ct8, fun s v => .of_eq rfl, fun base _ _ => ?_⟩
  have C_numbered_texts : Cal l.prog w K mg base "numbered_texts" 1 ["letter", "many", "but"] F_numbered_texts := (cal_mk (P := l.prog) (w := w) (base := base) F0 (PySem.W.mg_of X G a0) (ok_numbered_texts T F0) (F0.binds (ps := ["letter", "many", "but"]) fun _ _ _ _ _ _ us hl => match us, hl with | [_, _, _], _ => rfl)).clean (gc_ok _)
  have CD_sample_texts : CalD l.prog w K mg base "sample_texts" 2 ["many", "but"] F_sample_texts [.tup []] := (calD_mk (P := l.prog) (w := w) (base := base) l1 c1 k1 n1 t1 (PySem.W.mg_of X G a1) (ok_sample_texts T C_numbered_texts F1) (j := 1) rfl (fun _ _ _ _ _ _ us ks h1 h2 => match us, ks, h1, h2 with | [_], [_], _, _ => ⟨_, _, _, _, _, _, rfl, rfl, rfl⟩)).clean (gc_ok _)
  have CK_sample_texts : CalK l.prog w K mg base "sample_texts" 2 ["many", "but"] F_sample_texts 1 ["but"] := (calK_mk (P := l.prog) (w := w) (base := base) k1 (PySem.W.mg_of X G a1) (ok_sample_texts T C_numbered_texts F1) (fun us ws h1 h2 => match us, ws, h1, h2 with | [_], [_], _, _ => rfl)).clean (gc_ok _)
  have CD_spare_texts : CalD l.prog w K mg base "spare_texts" 2 ["many", "but"] F_spare_texts [.tup []] := (calD_mk (P := l.prog) (w := w) (base := base) l2 c2 k2 n2 t2 (PySem.W.mg_of X G a2) (ok_spare_texts T C_numbered_texts F2) (j := 1) rfl (fun _ _ _ _ _ _ us ks h1 h2 => match us, ks, h1, h2 with | [_], [_], _, _ => ⟨_, _, _, _, _, _, rfl, rfl, rfl⟩)).clean (gc_ok _)
  have CK_spare_texts : CalK l.prog w K mg base "spare_texts" 2 ["many", "but"] F_spare_texts 1 ["but"] := (calK_mk (P := l.prog) (w := w) (base := base) k2 (PySem.W.mg_of X G a2) (ok_spare_texts T C_numbered_texts F2) (fun us ws h1 h2 => match us, ws, h1, h2 with | [_], [_], _, _ => rfl)).clean (gc_ok _)
  have C__law_tape : Cal l.prog w K mg base "_law_tape" 1 ["_law_script"] F__law_tape := (cal_mk (P := l.prog) (w := w) (base := base) F3 (PySem.W.mg_of X G a3) (ok__law_tape T F3) (F3.binds (ps := ["_law_script"]) fun _ _ _ _ _ _ us hl => match us, hl with | [_], _ => rfl)).clean (gc_ok _)
  have C__law_draw : Cal l.prog w K mg base "_law_draw" 1 ["_law_tape_here", "_law_many"] F__law_draw := (cal_mk (P := l.prog) (w := w) (base := base) F4 (PySem.W.mg_of X G a4) (ok__law_draw T F4) (F4.binds (ps := ["_law_tape_here", "_law_many"]) fun _ _ _ _ _ _ us hl => match us, hl with | [_, _], _ => rfl)).clean (gc_ok _)
  have C__law_text : Cal l.prog w K mg base "_law_text" 2 ["_law_tape_here"] F__law_text := (cal_mk (P := l.prog) (w := w) (base := base) F5 (PySem.W.mg_of X G a5) (ok__law_text T C__law_draw F5) (F5.binds (ps := ["_law_tape_here"]) fun _ _ _ _ _ _ us hl => match us, hl with | [_], _ => rfl)).clean (gc_ok _)
  have C__law_known : Cal l.prog w K mg base "_law_known" 3 ["_law_tape_here", "_law_most"] F__law_known := (cal_mk (P := l.prog) (w := w) (base := base) F6 (PySem.W.mg_of X G a6) (ok__law_known T C__law_draw C__law_text F6) (F6.binds (ps := ["_law_tape_here", "_law_most"]) fun _ _ _ _ _ _ us hl => match us, hl with | [_, _], _ => rfl)).clean (gc_ok _)
  have C__law_first : Cal l.prog w K mg base "_law_first" 1 ["_law_letter", "_law_many", "_law_constants"] F__law_first := (cal_mk (P := l.prog) (w := w) (base := base) F7 (PySem.W.mg_of X G a7) (ok__law_first T F7) (F7.binds (ps := ["_law_letter", "_law_many", "_law_constants"]) fun _ _ _ _ _ _ us hl => match us, hl with | [_, _, _], _ => rfl)).clean (gc_ok _)
  exact (ok_law T CD_sample_texts CK_sample_texts C__law_first CD_spare_texts CK_spare_texts C__law_known C__law_draw C__law_tape F8).imp (spLaw_imp law_true)
end LW
open PySem PySem.W PyProof.Rows in
set_option maxRecDepth 100000 in
set_option maxHeartbeats 0 in
theorem PySem.Challenge.cw_migraproof_k00_sample_and_spare_texts_holds : PySem.Challenge.rw_migraproof_k00_sample_and_spare_texts.Holds := by
  w_on; o_law; k_head; (case hw => w_witness2)
  k_fill
  refine L2.walk_of (l := PySem.Challenge.rw_migraproof_k00_sample_and_spare_texts) (n := 63) (k := 4) (x := "_law_script") (CX := fun w => L2.CX PySem.Challenge.rw_migraproof_k00_sample_and_spare_texts.prog w) (sp := fun w => DL.spLaw _) rfl (by decide) rfl ⟨rfl, by decide, by decide⟩ (fun w h Y => PySem.W.kIn_of Y) ?F (fun _ _ a ns hl ho hS => ⟨a, ns, rfl, hl, ho, hS, fun _ => rfl⟩) (fun _ _ _ _ _ h => DL.cxF h)
  case F =>
    intro w mg fa h KX G hmg
    refine' LW.all_mk KX G hmg ?a0 ?l0 ?c0 ?k0 ?a1 ?l1 ?c1 ?k1 ?n1 ?t1 ?a2 ?l2 ?c2 ?k2 ?n2 ?t2 ?a3 ?l3 ?c3 ?k3 ?a4 ?l4 ?c4 ?k4 ?a5 ?l5 ?c5 ?k5 ?a6 ?l6 ?c6 ?k6 ?a7 ?l7 ?c7 ?k7 ?a8 ?l8 ?c8 ?k8 ?z_tuple ?z_len ?z_str ?z_list ?z_int ?z_abs ?z_max ?z_sorted ?z_range
    (case a0 => k_is)
    (case l0 => k_is)
    (case c0 => k_is)
    (case k0 => k_is)
    (case a1 => k_is)
    (case l1 => k_is)
    (case c1 => k_is)
    (case k1 => k_is)
    (case n1 => k_is)
    (case t1 => k_is)
    (case a2 => k_is)
    (case l2 => k_is)
    (case c2 => k_is)
    (case k2 => k_is)
    (case n2 => k_is)
    (case t2 => k_is)
    (case a3 => k_is)
    (case l3 => k_is)
    (case c3 => k_is)
    (case k3 => k_is)
    (case a4 => k_is)
    (case l4 => k_is)
    (case c4 => k_is)
    (case k4 => k_is)
    (case a5 => k_is)
    (case l5 => k_is)
    (case c5 => k_is)
    (case k5 => k_is)
    (case a6 => k_is)
    (case l6 => k_is)
    (case c6 => k_is)
    (case k6 => k_is)
    (case a7 => k_is)
    (case l7 => k_is)
    (case c7 => k_is)
    (case k7 => k_is)
    (case a8 => k_is)
    (case l8 => k_is)
    (case c8 => k_is)
    (case k8 => k_is)
    (case z_tuple => k_is)
    (case z_len => k_is)
    (case z_str => k_is)
    (case z_list => k_is)
    (case z_int => k_is)
    (case z_abs => k_is)
    (case z_max => k_is)
    (case z_sorted => k_is)
    (case z_range => k_is)
