import PyProof.Rows.All
import Wide.All
import OpenK.AllK
import Wide.FinOn
import HandS.ForMost
import HandS.Flow
import HandS.Exc
import HandS.WordsExc
import HandS.Rev
import HandS.Zip
import HandS.TupAny
import HandS.Wide
import HandS.IsInst
import HandS.RaiseMore
import KE.GoesMore
import HandS.Defaults
import HandS.SetFor
import HandS.TupSets
import PyProof.Rows.SortShellAny
import HandS.Dict
import HandS.NoneIn
import HandS.Small
import HandS.Conv
import KE.KDictKeyed
import HandS.More
import HandS.WordsDict
import KE.KDictPairs
import KE.KDictZip
import HandS.Text
import PySem.Challenge.RW_migraproof_k09_condition_holds
set_option Elab.async false
set_option linter.all false
set_option maxRecDepth 100000
namespace DL
open PySem PySem.Spec PyProof.Rows L2

/-! ### data, the store, answers -/
inductive D where
  | non | bl (b : Bool) | int (i : Int) | str (x : Str) | tup (l : List D) | ref (n : Nat)
inductive O where
  | lst (l : List D) | rol (l : List D) | dct (l : List (D × D)) | rot (l : List D)
abbrev Sto := List O
abbrev Ev := List (Option D)
structure Exn where
  cls : Str
  args : Option (List (Str × D))
inductive R (α : Type) where
  | ok (a : α) | ex (e : Exn)
abbrev Ans (α : Type) := Option (R α × Sto)
def bindR {α β : Type} (x : Ans α) (k : α → Sto → Ans β) : Ans β := match x with
  | none => none
  | some (.ex e, S) => some (.ex e, S)
  | some (.ok a, S) => k a S
def okO {α : Type} (x : Option (α × Sto)) : Ans α := match x with
  | none => none
  | some (a, S) => some (.ok a, S)
def O.mut : O → Bool
  | .lst _ => true
  | .rol _ => false
  | .dct _ => true
  | .rot _ => false
/-- a key as data -/
def kD : Key → D
  | .inl i => .int i
  | .inr x => .str x

/-! ### how data lie in the abstract heap -/
section
variable (K : PySem.W.Frag)
mutual
def RV (io : List Addr) (H : Hp) : D → V → Prop
  | .non, v => v = .non
  | .bl b, v => v = .bl b
  | .int i, v => v = .int i
  | .str x, v => v = .str x
  | .tup ds, v => ∃ a vs, v = .ref a ∧ SqT K H a vs ∧ RVs io H ds vs
  | .ref n, v => ∃ a, io[n]? = some a ∧ v = .ref a
def RVs (io : List Addr) (H : Hp) : List D → List V → Prop
  | [], vs => vs = []
  | d :: ds, vs => ∃ v r, vs = v :: r ∧ RV io H d v ∧ RVs io H ds r
end
structure Ext (io : List Addr) (H : Hp) (io' : List Addr) (H' : Hp) : Prop where
  pre : ∃ t, io' = io ++ t
  tup : ∀ a vs, SqT K H a vs → SqT K H' a vs
/-- a list that nobody writes -/
def ROL (H : Hp) (a : Addr) (vs : List V) : Prop := (∃ o, H a = some (.frz o (.lst vs))) ∨
    ∃ (o : Obj) (its : Array Value) (n : Nat), K.lookup a = some o ∧ o.cls = .type "list" ∧ o.dict = none ∧ o.data = .seq its n ∧ its.size ≤ sizeLine ∧ Vals vs its.toList
/-- a tuple whose object is known -/
def ROT (H : Hp) (a : Addr) (vs : List V) : Prop := ∃ (o : Obj) (its : List Value) (n : Nat), H a = some (.frz o (.tup vs)) ∧ o.cls = .type "tuple" ∧ o.dict = none ∧ o.data = .seq its.toArray n ∧ Vals vs its
def RO (io : List Addr) (H : Hp) : O → Addr → Prop
  | .lst ds, a => ∃ vs, H a = some (.lst vs) ∧ RVs K io H ds vs
  | .rol ds, a => ∃ vs, ROL K H a vs ∧ RVs K io H ds vs
  | .rot ds, a => ∃ vs, ROT H a vs ∧ RVs K io H ds vs
  | .dct es, a => ∃ kvs : List (Key × V), H a = some (.dK kvs) ∧ es.map (·.1) = kvs.map (fun p => kD p.1) ∧ RVs K io H (es.map (·.2)) (kvs.map (·.2))
/-- what may be written -/
def Wrt : HO → Prop
  | .lst _ => True
  | .dK _ => True
  | _ => False
structure RS (io : List Addr) (S : Sto) (H : Hp) : Prop where
  len : io.length = S.length
  obj : ∀ (n : Nat) (o : O) (a : Addr), S[n]? = some o → io[n]? = some a → RO K io H o a
  inj : ∀ (m n : Nat) (a : Addr) (o u : O), io[m]? = some a → io[n]? = some a → S[m]? = some o → S[n]? = some u → o.mut = true → u.mut = true → m = n
structure RE (io : List Addr) (H : Hp) (env : Ev) (σ : L2.St) : Prop where
  len : env.length = σ.length
  get : ∀ (i : Nat) (d : D), env[i]? = some (some d) → ∃ v, σ[i]? = some (some v) ∧ RV K io H d v
end

section
variable {K : PySem.W.Frag} {io io' io2 : List Addr} {H H' H2 : Hp} {S S' : Sto}
theorem Ext.refl : Ext K io H io H := ⟨⟨[], by simp⟩, fun _ _ h => h⟩
theorem Ext.trans (a : Ext K io H io' H') (b : Ext K io' H' io2 H2) : Ext K io H io2 H2 := by
  obtain ⟨t, rfl⟩ := a.pre
  obtain ⟨u, rfl⟩ := b.pre
  exact ⟨⟨t ++ u, by simp⟩, fun x vs h => b.tup x vs (a.tup x vs h)⟩
theorem Ext.get (e : Ext K io H io' H') {n : Nat} {a : Addr} (h : io[n]? = some a) : io'[n]? = some a := by
  obtain ⟨t, rfl⟩ := e.pre
  rw [List.getElem?_append_left (List.getElem?_eq_some_iff.mp h).1]
  exact h
mutual
theorem RV.mono (e : Ext K io H io' H') : ∀ (d : D) (v : V), RV K io H d v → RV K io' H' d v
  | .non, _, h => by simpa [RV] using h
  | .bl _, _, h => by simpa [RV] using h
  | .int _, _, h => by simpa [RV] using h
  | .str _, _, h => by simpa [RV] using h
  | .tup ds, v, h => by
    unfold RV at h ⊢
    obtain ⟨a, vs, e1, e2, e3⟩ := h
    exact ⟨a, vs, e1, e.tup a vs e2, RVs.mono e ds vs e3⟩
  | .ref n, v, h => by
    unfold RV at h ⊢
    obtain ⟨a, e1, e2⟩ := h
    exact ⟨a, e.get e1, e2⟩
theorem RVs.mono (e : Ext K io H io' H') : ∀ (ds : List D) (vs : List V), RVs K io H ds vs → RVs K io' H' ds vs
  | [], _, h => by simpa [RVs] using h
  | d :: ds, vs, h => by
    unfold RVs at h ⊢
    obtain ⟨v, r, e1, e2, e3⟩ := h
    exact ⟨v, r, e1, RV.mono e d v e2, RVs.mono e ds r e3⟩
end
theorem RE.mono {env : Ev} {σ : L2.St} (h : RE K io H env σ) (e : Ext K io H io' H') : RE K io' H' env σ := ⟨h.len, fun i d q => by
  obtain ⟨v, e1, e2⟩ := h.get i d q
  exact ⟨v, e1, RV.mono e d v e2⟩⟩
theorem RE.set {env : Ev} {σ : L2.St} (h : RE K io H env σ) (i : Nat) {d : D} {v : V} (r : RV K io H d v) : RE K io H (env.set i (some d)) (σ.set i (some v)) := by
  refine ⟨by simp [h.len], fun j e q => ?_⟩
  by_cases hj : i = j
  · subst hj
    have hi : i < env.length := by
      have := (List.getElem?_eq_some_iff.mp q).1
      simpa using this
    rw [List.getElem?_set_self hi] at q
    cases q
    exact ⟨v, List.getElem?_set_self (by rw [← h.len]; exact hi), r⟩
  · rw [List.getElem?_set_ne hj] at q ⊢
    exact h.get j e q
theorem RVs.length : ∀ {ds : List D} {vs : List V}, RVs K io H ds vs → ds.length = vs.length
  | [], _, h => by
    unfold RVs at h
    subst h
    rfl
  | d :: ds, _, h => by
    unfold RVs at h
    obtain ⟨v, r, e, _, h⟩ := h
    subst e
    rw [List.length_cons, List.length_cons, RVs.length h]
theorem RVs.get : ∀ {ds : List D} {vs : List V} {i : Nat} {d : D}, RVs K io H ds vs → ds[i]? = some d → ∃ v, vs[i]? = some v ∧ RV K io H d v
  | [], _, _, _, _, q => by simp at q
  | d :: ds, _, 0, x, h, q => by
    unfold RVs at h
    obtain ⟨v, r, e, h1, h2⟩ := h
    subst e
    simp at q
    subst q
    exact ⟨v, rfl, h1⟩
  | d :: ds, _, i + 1, x, h, q => by
    unfold RVs at h
    obtain ⟨v, r, e, h1, h2⟩ := h
    subst e
    simp at q
    obtain ⟨w, e1, e2⟩ := RVs.get h2 q
    exact ⟨w, by simpa using e1, e2⟩
theorem RVs.append : ∀ {ds es : List D} {vs ws : List V}, RVs K io H ds vs → RVs K io H es ws → RVs K io H (ds ++ es) (vs ++ ws)
  | [], _, _, _, h, q => by
    unfold RVs at h
    subst h
    exact q
  | d :: ds, es, _, ws, h, q => by
    unfold RVs at h
    obtain ⟨v, r, e, h1, h2⟩ := h
    subst e
    show RVs K io H (d :: (ds ++ es)) (v :: (r ++ ws))
    unfold RVs
    exact ⟨v, _, rfl, h1, RVs.append h2 q⟩
theorem RVs.nil : RVs K io H [] [] := by
  unfold RVs
  rfl
theorem RVs.cons {d : D} {ds : List D} {v : V} {vs : List V} (a : RV K io H d v) (b : RVs K io H ds vs) : RVs K io H (d :: ds) (v :: vs) := by
  unfold RVs
  exact ⟨v, vs, rfl, a, b⟩
theorem RVs.one {d : D} {v : V} (a : RV K io H d v) : RVs K io H [d] [v] := RVs.cons a RVs.nil
theorem RVs.set {d : D} {v : V} (r : RV K io H d v) : ∀ {ds : List D} {vs : List V} (i : Nat), RVs K io H ds vs → RVs K io H (ds.set i d) (vs.set i v)
  | [], _, i, h => by
    unfold RVs at h
    subst h
    exact RVs.nil
  | e :: ds, _, 0, h => by
    unfold RVs at h
    obtain ⟨w, q, e, h1, h2⟩ := h
    subst e
    exact RVs.cons r h2
  | e :: ds, _, i + 1, h => by
    unfold RVs at h
    obtain ⟨w, q, e, h1, h2⟩ := h
    subst e
    exact RVs.cons h1 (RVs.set r i h2)
theorem RVs.take : ∀ {ds : List D} {vs : List V} (n : Nat), RVs K io H ds vs → RVs K io H (ds.take n) (vs.take n)
  | _, _, 0, _ => by simpa using RVs.nil
  | [], _, n + 1, h => by
    unfold RVs at h
    subst h
    simpa using RVs.nil
  | d :: ds, _, n + 1, h => by
    unfold RVs at h
    obtain ⟨w, q, e, h1, h2⟩ := h
    subst e
    exact RVs.cons h1 (RVs.take n h2)
theorem RVs.drop : ∀ {ds : List D} {vs : List V} (n : Nat), RVs K io H ds vs → RVs K io H (ds.drop n) (vs.drop n)
  | _, _, 0, h => by simpa using h
  | [], _, n + 1, h => by
    unfold RVs at h
    subst h
    simpa using RVs.nil
  | d :: ds, _, n + 1, h => by
    unfold RVs at h
    obtain ⟨w, q, e, h1, h2⟩ := h
    subst e
    exact RVs.drop n h2

/-! ### the heap changes -/
theorem SqT.fresh {p : Addr} {o : HO} (hp : H p = none) : ∀ a vs, SqT K H a vs → SqT K (upd H p o) a vs := fun a vs h => by
  rcases h with (h | ⟨u, h⟩) | h
  · exact .inl (.inl (by rw [upd_ne (ne_of_none h hp)]; exact h))
  · exact .inl (.inr ⟨u, by rw [upd_ne (ne_of_none h hp)]; exact h⟩)
  · exact .inr h
theorem SqT.write {p : Addr} {o u : HO} (hp : H p = some u) (wu : Wrt u) : ∀ a vs, SqT K H a vs → SqT K (upd H p o) a vs := fun a vs h => by
  rcases h with (h | ⟨u, h⟩) | h
  · exact .inl (.inl (by rw [upd_ne (ne_of h hp (by rintro rfl; exact wu))]; exact h))
  · exact .inl (.inr ⟨u, by rw [upd_ne (ne_of h hp (by rintro rfl; exact wu))]; exact h⟩)
  · exact .inr h
theorem ROL.fresh {p a : Addr} {o : HO} {vs : List V} (hp : H p = none) (h : ROL K H a vs) : ROL K (upd H p o) a vs := by
  rcases h with ⟨u, h⟩ | h
  · exact .inl ⟨u, by rw [upd_ne (ne_of_none h hp)]; exact h⟩
  · exact .inr h
theorem ROL.write {p a : Addr} {o u : HO} {vs : List V} (hp : H p = some u) (wu : Wrt u) (h : ROL K H a vs) : ROL K (upd H p o) a vs := by
  rcases h with ⟨u, h⟩ | h
  · exact .inl ⟨u, by rw [upd_ne (ne_of h hp (by rintro rfl; exact wu))]; exact h⟩
  · exact .inr h
theorem ROT.fresh {p a : Addr} {o : HO} {vs : List V} (hp : H p = none) (h : ROT H a vs) : ROT (upd H p o) a vs := by
  obtain ⟨u, its, n, h, r⟩ := h
  exact ⟨u, its, n, by rw [upd_ne (ne_of_none h hp)]; exact h, r⟩
theorem ROT.write {p a : Addr} {o u : HO} {vs : List V} (hp : H p = some u) (wu : Wrt u) (h : ROT H a vs) : ROT (upd H p o) a vs := by
  obtain ⟨u, its, n, h, r⟩ := h
  exact ⟨u, its, n, by rw [upd_ne (ne_of h hp (by rintro rfl; exact wu))]; exact h, r⟩
theorem ROT.sq {a : Addr} {vs : List V} (h : ROT H a vs) : SqT K H a vs := by
  obtain ⟨u, its, n, h, r⟩ := h
  exact .inl (.inr ⟨u, h⟩)
theorem ROL.sq {a : Addr} {vs : List V} (h : ROL K H a vs) : SqL K H a vs := by
  rcases h with ⟨u, h⟩ | h
  · exact .inl (.inr ⟨u, h⟩)
  · exact .inr h
theorem RO.fresh {t : List Addr} {p a : Addr} {o : HO} (hp : H p = none) : ∀ {u : O}, RO K io H u a → RO K (io ++ t) (upd H p o) u a
  | .lst ds, ⟨vs, h1, h2⟩ => ⟨vs, by rw [upd_ne (ne_of_none h1 hp)]; exact h1, RVs.mono ⟨⟨t, rfl⟩, SqT.fresh hp⟩ ds vs h2⟩
  | .rol ds, ⟨vs, h1, h2⟩ => ⟨vs, h1.fresh hp, RVs.mono ⟨⟨t, rfl⟩, SqT.fresh hp⟩ ds vs h2⟩
  | .rot ds, ⟨vs, h1, h2⟩ => ⟨vs, h1.fresh hp, RVs.mono ⟨⟨t, rfl⟩, SqT.fresh hp⟩ ds vs h2⟩
  | .dct es, ⟨kvs, h1, h2, h3⟩ => ⟨kvs, by rw [upd_ne (ne_of_none h1 hp)]; exact h1, h2, RVs.mono ⟨⟨t, rfl⟩, SqT.fresh hp⟩ _ _ h3⟩
/-- a new tuple -/
theorem RS.tupNew (h : RS K io S H) {p : Addr} {vs : List V} (hp : H p = none) : RS K io S (upd H p (.tup vs)) := ⟨h.len, fun n o a e1 e2 => by
  have q := (h.obj n o a e1 e2).fresh (t := []) (o := .tup vs) hp
  rwa [List.append_nil] at q, h.inj⟩
theorem Ext.fresh {p : Addr} {o : HO} (hp : H p = none) : Ext K io H io (upd H p o) := ⟨⟨[], by simp⟩, SqT.fresh hp⟩
theorem RS.mutSome (h : RS K io S H) {n : Nat} {o : O} {a : Addr} (e1 : S[n]? = some o) (e2 : io[n]? = some a) (m : o.mut = true) : ∃ u, H a = some u ∧ Wrt u := by
  have q := h.obj n o a e1 e2
  cases o with
  | lst ds =>
    obtain ⟨vs, q, _⟩ := q
    exact ⟨_, q, trivial⟩
  | rol ds => cases m
  | rot ds => cases m
  | dct es =>
    obtain ⟨vs, q, _⟩ := q
    exact ⟨_, q, trivial⟩
/-- a new object -/
theorem RS.objNew (h : RS K io S H) {p : Addr} {ob : O} {u : HO} (hp : H p = none) (r : RO K (io ++ [p]) (upd H p u) ob p) : RS K (io ++ [p]) (S ++ [ob]) (upd H p u) := by
  have hS : ∀ {n : Nat} {o : O}, (S ++ [ob])[n]? = some o → S[n]? = some o ∨ (n = S.length ∧ o = ob) := fun {n o} e => by
    by_cases hn : n < S.length
    · rw [List.getElem?_append_left hn] at e
      exact .inl e
    · rw [List.getElem?_append_right (by omega)] at e
      have h0 : n - S.length = 0 := by
        have := (List.getElem?_eq_some_iff.mp e).1
        simp at this
        omega
      rw [h0] at e
      cases e
      exact .inr ⟨by omega, rfl⟩
  have hI : ∀ {n : Nat} {a : Addr}, (io ++ [p])[n]? = some a → io[n]? = some a ∨ (n = S.length ∧ a = p) := fun {n a} e => by
    by_cases hn : n < io.length
    · rw [List.getElem?_append_left hn] at e
      exact .inl e
    · rw [List.getElem?_append_right (by omega)] at e
      have h0 : n - io.length = 0 := by
        have := (List.getElem?_eq_some_iff.mp e).1
        simp at this
        omega
      rw [h0] at e
      cases e
      exact .inr ⟨by have := h.len; omega, rfl⟩
  have lt : ∀ {n : Nat} {o : O}, S[n]? = some o → n < S.length := fun e => (List.getElem?_eq_some_iff.mp e).1
  have ltI : ∀ {n : Nat} {a : Addr}, io[n]? = some a → n < S.length := fun e => by
    rw [← h.len]
    exact (List.getElem?_eq_some_iff.mp e).1
  refine ⟨by simp [h.len], fun n o a e1 e2 => ?_, fun m n a o u e1 e2 e3 e4 m1 m2 => ?_⟩
  · rcases hS e1 with e1 | ⟨rfl, rfl⟩
    · rcases hI e2 with e2 | ⟨rfl, rfl⟩
      · exact (h.obj n o a e1 e2).fresh hp
      · exact absurd (lt e1) (Nat.lt_irrefl _)
    · rcases hI e2 with e2 | ⟨_, rfl⟩
      · exact absurd (ltI e2) (Nat.lt_irrefl _)
      · exact r
  · rcases hS e3 with f3 | ⟨q3, r3⟩
    · rcases hI e1 with f1 | ⟨q1, _⟩
      · rcases hS e4 with f4 | ⟨q4, r4⟩
        · rcases hI e2 with f2 | ⟨q2, _⟩
          · exact h.inj m n a o u f1 f2 f3 f4 m1 m2
          · exact absurd (q2 ▸ lt f4) (Nat.lt_irrefl _)
        · rcases hI e2 with f2 | ⟨_, r2⟩
          · exact absurd (q4 ▸ ltI f2) (Nat.lt_irrefl _)
          · obtain ⟨xs, q, _⟩ := h.mutSome f3 f1 m1
            rw [r2, hp] at q
            cases q
      · exact absurd (q1 ▸ lt f3) (Nat.lt_irrefl _)
    · rcases hI e1 with f1 | ⟨_, r1⟩
      · exact absurd (q3 ▸ ltI f1) (Nat.lt_irrefl _)
      · rcases hS e4 with f4 | ⟨q4, r4⟩
        · rcases hI e2 with f2 | ⟨q2, _⟩
          · obtain ⟨xs, q, _⟩ := h.mutSome f4 f2 m2
            rw [r1, hp] at q
            cases q
          · exact absurd (q2 ▸ lt f4) (Nat.lt_irrefl _)
        · rw [q3, q4]
/-- a new list -/
theorem RS.lstNew (h : RS K io S H) {p : Addr} {ds : List D} {vs : List V} (hp : H p = none) (r : RVs K io H ds vs) : RS K (io ++ [p]) (S ++ [.lst ds]) (upd H p (.lst vs)) :=
  h.objNew hp ⟨vs, upd_same, RVs.mono ⟨⟨[p], rfl⟩, SqT.fresh hp⟩ ds vs r⟩
/-- a new dict -/
theorem RS.dctNew (h : RS K io S H) {p : Addr} {es : List (D × D)} {kvs : List (Key × V)} (hp : H p = none) (hk : es.map (·.1) = kvs.map (fun q => kD q.1)) (r : RVs K io H (es.map (·.2)) (kvs.map (·.2))) : RS K (io ++ [p]) (S ++ [.dct es]) (upd H p (.dK kvs)) :=
  h.objNew hp ⟨kvs, upd_same, hk, RVs.mono ⟨⟨[p], rfl⟩, SqT.fresh hp⟩ _ _ r⟩
theorem Ext.new {p : Addr} {o : HO} (hp : H p = none) : Ext K io H (io ++ [p]) (upd H p o) := ⟨⟨[p], rfl⟩, SqT.fresh hp⟩
theorem RS.lastNew (h : RS K io S H) {p : Addr} : (io ++ [p])[S.length]? = some p := by
  rw [← h.len]
  simp
/-- an object is written -/
theorem RS.put (h : RS K io S H) {n : Nat} {a : Addr} {ob : O} {o0 : O} {u : HO} (m0 : o0.mut = true) (m1 : ob.mut = true) (e1 : S[n]? = some o0) (e2 : io[n]? = some a) (r : Ext K io H io (upd H a u) → RO K io (upd H a u) ob a) : RS K io (S.set n ob) (upd H a u) ∧ Ext K io H io (upd H a u) := by
  obtain ⟨x0, hx, wx⟩ := h.mutSome e1 e2 m0
  have hn : n < S.length := (List.getElem?_eq_some_iff.mp e1).1
  have ext : Ext K io H io (upd H a u) := ⟨⟨[], by simp⟩, SqT.write hx wx⟩
  have old : ∀ {m : Nat} {o : O}, (S.set n ob)[m]? = some o → (m = n ∧ o = ob) ∨ (m ≠ n ∧ S[m]? = some o) := fun {m o} e => by
    by_cases hm : n = m
    · subst hm
      rw [List.getElem?_set_self hn] at e
      cases e
      exact .inl ⟨rfl, rfl⟩
    · rw [List.getElem?_set_ne hm] at e
      exact .inr ⟨fun z => hm z.symm, e⟩
  refine ⟨⟨by simp [h.len], fun m o b q1 q2 => ?_, fun k m b o v q1 q2 q3 q4 m1 m2 => ?_⟩, ext⟩
  · rcases old q1 with ⟨rfl, rfl⟩ | ⟨ne, q1⟩
    · rw [e2] at q2
      cases q2
      exact r ext
    · have q := h.obj m o b q1 q2
      cases o with
      | lst fs =>
        obtain ⟨ws, w1, w2⟩ := q
        have nb : b ≠ a := fun z => by
          subst z
          exact ne (h.inj m n b _ _ q2 e2 q1 e1 rfl m0)
        exact ⟨ws, by rw [upd_ne nb]; exact w1, RVs.mono ext fs ws w2⟩
      | rol fs =>
        obtain ⟨ws, w1, w2⟩ := q
        exact ⟨ws, w1.write hx wx, RVs.mono ext fs ws w2⟩
      | rot fs =>
        obtain ⟨ws, w1, w2⟩ := q
        exact ⟨ws, w1.write hx wx, RVs.mono ext fs ws w2⟩
      | dct fs =>
        obtain ⟨ws, w1, w2, w3⟩ := q
        have nb : b ≠ a := fun z => by
          subst z
          exact ne (h.inj m n b _ _ q2 e2 q1 e1 rfl m0)
        exact ⟨ws, by rw [upd_ne nb]; exact w1, w2, RVs.mono ext _ _ w3⟩
  · have g : ∀ {m : Nat} {o : O}, (S.set n ob)[m]? = some o → o.mut = true → ∃ o', S[m]? = some o' ∧ o'.mut = true := fun {m o} e mm => by
      rcases old e with ⟨rfl, rfl⟩ | ⟨_, e⟩
      · exact ⟨_, e1, m0⟩
      · exact ⟨o, e, mm⟩
    obtain ⟨o', a1, a2⟩ := g q3 m1
    obtain ⟨u', b1, b2⟩ := g q4 m2
    exact h.inj k m b o' u' q1 q2 a1 b1 a2 b2
/-- a list is written -/
theorem RS.write (h : RS K io S H) {n : Nat} {a : Addr} {ds es : List D} {vs : List V} (e1 : S[n]? = some (.lst es)) (e2 : io[n]? = some a) (r : RVs K io H ds vs) : RS K io (S.set n (.lst ds)) (upd H a (.lst vs)) ∧ Ext K io H io (upd H a (.lst vs)) :=
  h.put rfl rfl e1 e2 fun ext => ⟨vs, upd_same, RVs.mono ext ds vs r⟩
/-- a dict is written -/
theorem RS.writeD (h : RS K io S H) {n : Nat} {a : Addr} {es fs : List (D × D)} {kvs : List (Key × V)} (e1 : S[n]? = some (.dct fs)) (e2 : io[n]? = some a) (hk : es.map (·.1) = kvs.map (fun q => kD q.1)) (r : RVs K io H (es.map (·.2)) (kvs.map (·.2))) : RS K io (S.set n (.dct es)) (upd H a (.dK kvs)) ∧ Ext K io H io (upd H a (.dK kvs)) :=
  h.put rfl rfl e1 e2 fun ext => ⟨kvs, upd_same, hk, RVs.mono ext _ _ r⟩
/-- a new tuple whose object is known -/
theorem RS.rotNew (h : RS K io S H) {p : Addr} {ds : List D} {vs : List V} {o : Obj} {its : List Value} {n : Nat} (hp : H p = none) (h1 : o.cls = .type "tuple") (h2 : o.dict = none) (h3 : o.data = .seq its.toArray n) (h4 : Vals vs its) (r : RVs K io H ds vs) : RS K (io ++ [p]) (S ++ [.rot ds]) (upd H p (.frz o (.tup vs))) :=
  h.objNew hp ⟨vs, ⟨o, its, n, upd_same, h1, h2, h3, h4⟩, RVs.mono ⟨⟨[p], rfl⟩, SqT.fresh hp⟩ ds vs r⟩
theorem RS.rot (h : RS K io S H) {n : Nat} {ds : List D} {v : V} (e : S[n]? = some (.rot ds)) (r : RV K io H (.ref n) v) : ∃ a vs, v = .ref a ∧ io[n]? = some a ∧ ROT H a vs ∧ RVs K io H ds vs := by
  unfold RV at r
  obtain ⟨a, h1, rfl⟩ := r
  obtain ⟨vs, q1, q2⟩ := h.obj n _ a e h1
  exact ⟨a, vs, rfl, h1, q1, q2⟩
/-- what a dict is -/
theorem RS.dct (h : RS K io S H) {n : Nat} {es : List (D × D)} {v : V} (e : S[n]? = some (.dct es)) (r : RV K io H (.ref n) v) : ∃ a kvs, v = .ref a ∧ io[n]? = some a ∧ H a = some (.dK kvs) ∧ es.map (·.1) = kvs.map (fun p => kD p.1) ∧ RVs K io H (es.map (·.2)) (kvs.map (·.2)) := by
  unfold RV at r
  obtain ⟨a, e1, e2⟩ := r
  obtain ⟨kvs, q1, q2, q3⟩ := h.obj n _ a e e1
  exact ⟨a, kvs, e2, e1, q1, q2, q3⟩
/-- what is read at a location -/
theorem RS.lst (h : RS K io S H) {n : Nat} {ds : List D} {v : V} (e : S[n]? = some (.lst ds)) (r : RV K io H (.ref n) v) : ∃ a vs, v = .ref a ∧ io[n]? = some a ∧ H a = some (.lst vs) ∧ RVs K io H ds vs := by
  unfold RV at r
  obtain ⟨a, e1, e2⟩ := r
  obtain ⟨vs, q1, q2⟩ := h.obj n _ a e e1
  exact ⟨a, vs, e2, e1, q1, q2⟩
theorem RS.seq (h : RS K io S H) {n : Nat} {ds : List D} {v : V} (e : S[n]? = some (.lst ds) ∨ S[n]? = some (.rol ds)) (r : RV K io H (.ref n) v) : ∃ a vs, v = .ref a ∧ io[n]? = some a ∧ SqL K H a vs ∧ RVs K io H ds vs := by
  unfold RV at r
  obtain ⟨a, e1, e2⟩ := r
  rcases e with e | e
  · obtain ⟨vs, q1, q2⟩ := h.obj n _ a e e1
    exact ⟨a, vs, e2, e1, SqL.of q1, q2⟩
  · obtain ⟨vs, q1, q2⟩ := h.obj n _ a e e1
    exact ⟨a, vs, e2, e1, q1.sq, q2⟩
end
end DL
namespace DL
open PySem PySem.Spec PyProof.Rows L2

/-! ### readings made of a computation -/
section
variable (K : PySem.W.Frag) (mg : Str → Option Value) (W : XK)
def RX (io : List Addr) (H : Hp) (e : Exn) (c : Value) (dd : Option Addr) : Prop := mg e.cls = some c ∧ match e.args with
  | none => dd = none
  | some fs => ∃ d vs, dd = some d ∧ H d = some (.xd vs) ∧ vs.map (·.1) = fs.map (·.1) ∧ RVs K io H (fs.map (·.2)) (vs.map (·.2))
variable {α β : Type} (rel : List Addr → Hp → α → β → Prop)
def EndG (io : List Addr) (H : Hp) (r : R α) (S' : Sto) (Q : β → Hp → Prop) : Prop := match r with
  | .ok d => ∀ io' H' v, Ext K io H io' H' → RS K io' S' H' → rel io' H' d v → Q v H'
  | .ex e => ∀ io' H' c dd, Ext K io H io' H' → RS K io' S' H' → RX K mg io' H' e c dd → W c dd H'
def tG (f : Ev → Sto → Ans α) : L2.St → Hp → (β → Hp → Prop) → Prop := fun σ H Q =>
  ∃ io S env r S', RS K io S H ∧ RE K io H env σ ∧ f env S = some (r, S') ∧ EndG K mg W rel io H r S' Q
abbrev tM (f : Ev → Sto → Ans D) : TE := tG K mg W (RV K) f
abbrev tMA (f : Ev → Sto → Ans (List D)) : TA := tG K mg W (RVs K) f
abbrev rB : List Addr → Hp → Bool → Bool → Prop := fun _ _ a b => a = b
abbrev tMT (f : Ev → Sto → Ans Bool) : TT := tG K mg W rB f
/-- a two-place operation on values, from one on data -/
def rM (g : D → D → Sto → Option (D × Sto)) : R2 := fun x y H Q =>
  ∃ io S a b d S', RS K io S H ∧ RV K io H a x ∧ RV K io H b y ∧ g a b S = some (d, S') ∧ ∀ io' H' v, Ext K io H io' H' → RS K io' S' H' → RV K io' H' d v → Q v H'
def rMU (g : D → Sto → Option (D × Sto)) : V → Hp → VK → Prop := fun x H Q =>
  ∃ io S a d S', RS K io S H ∧ RV K io H a x ∧ g a S = some (d, S') ∧ ∀ io' H' v, Ext K io H io' H' → RS K io' S' H' → RV K io' H' d v → Q v H'
def rMC (g : List D → Sto → Option (D × Sto)) : List V → Hp → VK → Prop := fun xs H Q =>
  ∃ io S ds d S', RS K io S H ∧ RVs K io H ds xs ∧ g ds S = some (d, S') ∧ ∀ io' H' v, Ext K io H io' H' → RS K io' S' H' → RV K io' H' d v → Q v H'
def rMM (g : D → List D → Sto → Option (D × Sto)) : V → List V → Hp → VK → Prop := fun x xs H Q =>
  ∃ io S a ds d S', RS K io S H ∧ RV K io H a x ∧ RVs K io H ds xs ∧ g a ds S = some (d, S') ∧ ∀ io' H' v, Ext K io H io' H' → RS K io' S' H' → RV K io' H' d v → Q v H'
end
section
variable {K : PySem.W.Frag} {mg : Str → Option Value} {W : XK} {α β γ δ : Type} {rel : List Addr → Hp → α → β → Prop} {relg : List Addr → Hp → γ → δ → Prop}
  {io io' : List Addr} {H H' : Hp} {S S' : Sto} {σ : L2.St} {env : Ev}
theorem EndG.mono {r : R α} {Q : β → Hp → Prop} (h : EndG K mg W rel io H r S' Q) (e : Ext K io H io' H') : EndG K mg W rel io' H' r S' Q := by
  cases r with
  | ok d => exact fun io2 H2 v e2 => h io2 H2 v (e.trans e2)
  | ex x => exact fun io2 H2 c dd e2 => h io2 H2 c dd (e.trans e2)
theorem EndG.now {d : α} {v : β} {Q : β → Hp → Prop} (h : EndG K mg W rel io H (.ok d) S' Q) (rs : RS K io S' H) (r : rel io H d v) : Q v H := h io H v Ext.refl rs r
theorem tG_bind2 {f : Ev → Sto → Ans α} {k : α → Sto → Ans γ} {r : R γ} {Q : β → Hp → Prop} {Q0 : δ → Hp → Prop} (rs : RS K io S H) (re : RE K io H env σ) (h : bindR (f env S) k = some (r, S')) (hE : EndG K mg W relg io H r S' Q0)
    (hk : ∀ a S1 io1 H1 v, f env S = some (.ok a, S1) → Ext K io H io1 H1 → RS K io1 S1 H1 → RE K io1 H1 env σ → rel io1 H1 a v → k a S1 = some (r, S') → EndG K mg W relg io1 H1 r S' Q0 → Q v H1) : tG K mg W rel f σ H Q := by
  cases hf : f env S with
  | none =>
    rw [hf] at h
    cases h
  | some p =>
    obtain ⟨ra, S1⟩ := p
    rw [hf] at h
    cases ra with
    | ok a => exact ⟨io, S, env, .ok a, S1, rs, re, hf, fun io1 H1 v e rs1 rv => hk a S1 io1 H1 v hf e rs1 (re.mono e) rv h (hE.mono e)⟩
    | ex e =>
      cases h
      exact ⟨io, S, env, .ex e, _, rs, re, hf, hE⟩
theorem tG_bind {f : Ev → Sto → Ans α} {k : α → Sto → Ans γ} {r : R γ} {Q : β → Hp → Prop} {Q0 : δ → Hp → Prop} (rs : RS K io S H) (re : RE K io H env σ) (h : bindR (f env S) k = some (r, S')) (hE : EndG K mg W relg io H r S' Q0)
    (hk : ∀ a S1 io1 H1 v, Ext K io H io1 H1 → RS K io1 S1 H1 → RE K io1 H1 env σ → rel io1 H1 a v → k a S1 = some (r, S') → EndG K mg W relg io1 H1 r S' Q0 → Q v H1) : tG K mg W rel f σ H Q := by
  cases hf : f env S with
  | none =>
    rw [hf] at h
    cases h
  | some p =>
    obtain ⟨ra, S1⟩ := p
    rw [hf] at h
    cases ra with
    | ok a => exact ⟨io, S, env, .ok a, S1, rs, re, hf, fun io1 H1 v e rs1 rv => hk a S1 io1 H1 v e rs1 (re.mono e) rv h (hE.mono e)⟩
    | ex e =>
      cases h
      exact ⟨io, S, env, .ex e, _, rs, re, hf, hE⟩
/-- the same computation, weaker ends -/
theorem tG_imp {f : Ev → Sto → Ans α} {Q Q' : β → Hp → Prop} (h : tG K mg W rel f σ H Q) (w : ∀ v H, Q v H → Q' v H) : tG K mg W rel f σ H Q' := by
  obtain ⟨io, S, env, r, S', rs, re, hf, hE⟩ := h
  refine ⟨io, S, env, r, S', rs, re, hf, ?_⟩
  cases r with
  | ok d => exact fun io2 H2 v e2 r2 q => w _ _ (hE io2 H2 v e2 r2 q)
  | ex x => exact hE
theorem okO_some {x : Option (D × Sto)} {r : R D} (h : okO x = some (r, S')) : ∃ d, x = some (d, S') ∧ r = .ok d := by
  cases x with
  | none => cases h
  | some p =>
    obtain ⟨d, S1⟩ := p
    cases h
    exact ⟨d, rfl, rfl⟩
end

/-! ### weaker readings -/
section
variable {X : Cx}
theorem pe_weak {e : Expr} {t t' : TE} (h : PE X e t) (w : ∀ σ H Q, t' σ H Q → t σ H Q) : PE X e t' := ⟨fun pins s σ H Q I q => h.run pins s σ H Q I (w σ H Q q)⟩
theorem pt_weak {e : Expr} {t t' : TT} (h : PT X e t) (w : ∀ σ H Q, t' σ H Q → t σ H Q) : PT X e t' := ⟨fun pins s σ H Q I q => h.run pins s σ H Q I (w σ H Q q)⟩
theorem pw_weak {e : Expr} {t t' : TT} (h : PW X e t) (w : ∀ σ H Q, t' σ H Q → t σ H Q) : PW X e t' := ⟨fun wh pins s σ H Q I q => h.run wh pins s σ H Q I (w σ H Q q)⟩
theorem pa_weak {es : List Expr} {t t' : TA} (h : PA X es t) (w : ∀ σ H Q, t' σ H Q → t σ H Q) : PA X es t' := ⟨fun pos pins s σ H Q I q => h.run pos pins s σ H Q I (w σ H Q q)⟩
theorem ps_weak {st : Stmt} {t t' : TS} (h : PS X st t) (w : ∀ E σ H, t' E σ H → t E σ H) : PS X st t' := ⟨fun pins s σ H E I q => h.run pins s σ H E I (w E σ H q)⟩
theorem pss_weak {st : List Stmt} {t t' : TS} (h : PSs X st t) (w : ∀ E σ H, t' E σ H → t E σ H) : PSs X st t' := ⟨fun pins s σ H E I q => h.run pins s σ H E I (w E σ H q)⟩
theorem pi_weak {tg e : Expr} {t t' : TI} (h : PI X tg e t) (w : ∀ σ H Q, t' σ H Q → t σ H Q) : PI X tg e t' := ⟨fun pins s σ H Q I q => h.run pins s σ H Q I (w σ H Q q)⟩
theorem pi_or {tg e : Expr} {t t' : TI} (h : PI X tg e t) (h' : PI X tg e t') : PI X tg e (fun σ H Q => t σ H Q ∨ t' σ H Q) := ⟨fun pins s σ H Q I q => q.elim (h.run pins s σ H Q I) (h'.run pins s σ H Q I)⟩
end

/-! ### the judgements -/
abbrev DE (X : Cx) (W : XK) (e : Expr) (f : Ev → Sto → Ans D) : Prop := PE X e (tM X.K X.mg W f)
abbrev DT (X : Cx) (W : XK) (e : Expr) (f : Ev → Sto → Ans Bool) : Prop := PT X e (tMT X.K X.mg W f)
abbrev DW (X : Cx) (W : XK) (e : Expr) (f : Ev → Sto → Ans Bool) : Prop := PW X e (tMT X.K X.mg W f)
abbrev DA (X : Cx) (W : XK) (es : List Expr) (f : Ev → Sto → Ans (List D)) : Prop := PA X es (tMA X.K X.mg W f)
abbrev OpD (X : Cx) (f : Value → Value → Sem Value) (g : D → D → Sto → Option (D × Sto)) : Prop := OpR X f (rM X.K g)
abbrev UnD (X : Cx) (f : Value → Sem Value) (g : D → Sto → Option (D × Sto)) : Prop := UnR X f (rMU X.K g)
abbrev CallD (X : Cx) (f : Value) (g : List D → Sto → Option (D × Sto)) : Prop := CallR X f (rMC X.K g)
abbrev MtD (X : Cx) (id : String) (g : D → List D → Sto → Option (D × Sto)) : Prop := MtR X id (rMM X.K g)

/-! ### the computations -/
def dVar (i : Nat) : Ev → Sto → Ans D := fun env S => match env[i]? with
  | some (some d) => some (.ok d, S)
  | _ => none
def dC (d : D) : Ev → Sto → Ans D := fun _ S => some (.ok d, S)
def dOp (g : D → D → Sto → Option (D × Sto)) (fa fb : Ev → Sto → Ans D) : Ev → Sto → Ans D := fun env S =>
  bindR (fa env S) fun a S1 => bindR (fb env S1) fun b S2 => okO (g a b S2)
def dUn (g : D → Sto → Option (D × Sto)) (fa : Ev → Sto → Ans D) : Ev → Sto → Ans D := fun env S =>
  bindR (fa env S) fun a S1 => okO (g a S1)
def dNil : Ev → Sto → Ans (List D) := fun _ S => some (.ok [], S)
def dCons (fa : Ev → Sto → Ans D) (fr : Ev → Sto → Ans (List D)) : Ev → Sto → Ans (List D) := fun env S =>
  bindR (fa env S) fun a S1 => bindR (fr env S1) fun r S2 => some (.ok (a :: r), S2)
def dCB (g : List D → Sto → Option (D × Sto)) (fs : Ev → Sto → Ans (List D)) : Ev → Sto → Ans D := fun env S =>
  bindR (fs env S) fun ds S1 => okO (g ds S1)
def dMt (g : D → List D → Sto → Option (D × Sto)) (fo : Ev → Sto → Ans D) (fs : Ev → Sto → Ans (List D)) : Ev → Sto → Ans D := fun env S =>
  bindR (fo env S) fun a S1 => bindR (fs env S1) fun ds S2 => okO (g a ds S2)
def gTup : List D → Sto → Option (D × Sto) := fun ds S => if ds.length ≤ sizeLine then some (.tup ds, S) else none
def gLst : List D → Sto → Option (D × Sto) := fun ds S => if ds.length ≤ sizeLine then some (.ref S.length, S ++ [.lst ds]) else none
/-- the items of a list, a tuple -/
def seqOf (d : D) (S : Sto) : Option (List D) := match d with
  | .tup ds => some ds
  | .ref n => match S[n]? with
    | some (.lst ds) => some ds
    | some (.rol ds) => some ds
    | _ => none
  | _ => none
def truD (d : D) (S : Sto) : Option Bool := match d with
  | .non => some false
  | .bl b => some b
  | .int i => some (i != 0)
  | .str x => if x.length ≤ sizeLine then some ((x.length : Int) != 0) else none
  | d => (seqOf d S).map fun ds => !ds.isEmpty
def okT (x : Option Bool) (S : Sto) : Ans Bool := match x with
  | none => none
  | some b => some (.ok b, S)
def dTru (fa : Ev → Sto → Ans D) : Ev → Sto → Ans Bool := fun env S => bindR (fa env S) fun a S1 => okT (truD a S1) S1
def dAnd (fa fb : Ev → Sto → Ans Bool) : Ev → Sto → Ans Bool := fun env S => bindR (fa env S) fun a S1 => if a = true then fb env S1 else some (.ok false, S1)
def dOr (fa fb : Ev → Sto → Ans Bool) : Ev → Sto → Ans Bool := fun env S => bindR (fa env S) fun a S1 => if a = true then some (.ok true, S1) else fb env S1
def dNot (fa : Ev → Sto → Ans Bool) : Ev → Sto → Ans Bool := fun env S => bindR (fa env S) fun a S1 => some (.ok (!a), S1)
def dAndV (fa fb : Ev → Sto → Ans D) : Ev → Sto → Ans D := fun env S => bindR (fa env S) fun a S1 => bindR (okT (truD a S1) S1) fun c S1 => if c = true then fb env S1 else some (.ok a, S1)
def dOrV (fa fb : Ev → Sto → Ans D) : Ev → Sto → Ans D := fun env S => bindR (fa env S) fun a S1 => bindR (okT (truD a S1) S1) fun c S1 => if c = true then some (.ok a, S1) else fb env S1
def dNotV (fa : Ev → Sto → Ans D) : Ev → Sto → Ans D := fun env S => bindR (fa env S) fun a S1 => bindR (okT (truD a S1) S1) fun c S1 => some (.ok (.bl (!c)), S1)
def dIf (fc : Ev → Sto → Ans Bool) (fa fb : Ev → Sto → Ans D) : Ev → Sto → Ans D := fun env S => bindR (fc env S) fun c S1 => if c = true then fa env S1 else fb env S1

/-! ### the rules -/
section
variable {X : Cx} {W : XK} {a b e : Expr} {es rest : List Expr} {fa fb : Ev → Sto → Ans D} {fs : Ev → Sto → Ans (List D)} {pos : Pos}
theorem RV.seq {K : PySem.W.Frag} {io : List Addr} {S : Sto} {H : Hp} {d : D} {v : V} {ds : List D} (rs : RS K io S H) (r : RV K io H d v) (h : seqOf d S = some ds) : ∃ p vs, v = .ref p ∧ (SqL K H p vs ∨ SqT K H p vs) ∧ RVs K io H ds vs := by
  cases d with
  | tup es =>
    unfold RV at r
    obtain ⟨p, vs, e1, e2, e3⟩ := r
    cases h
    exact ⟨p, vs, e1, .inr e2, e3⟩
  | ref n =>
    have q : S[n]? = some (.lst ds) ∨ S[n]? = some (.rol ds) := by
      simp only [seqOf] at h
      split at h
      · cases h
        exact .inl (by assumption)
      · cases h
        exact .inr (by assumption)
      · cases h
    obtain ⟨p, vs, e1, _, e2, e3⟩ := rs.seq q r
    exact ⟨p, vs, e1, .inl e2, e3⟩
  | non => cases h
  | bl _ => cases h
  | int _ => cases h
  | str _ => cases h
theorem d_var (i : Nat) {x : Str} (hN : X.N[i]? = some x := by rfl) (hv : Vis X.env.scope x := by first | exact Or.inl rfl | exact Or.inr (Or.inl rfl) | exact Or.inr (Or.inr rfl)) (hd : (x == ("__debug__" : Str)) = false := by decide)
    (hcd : (x == ("__classdict__" : Str)) = false := by decide) : DE X W (.Name x pos) (dVar i) :=
  pe_weak (pe_var hN hv hd hcd) fun σ H Q ⟨io, S, env, r, S', rs, re, hf, hE⟩ => by
    unfold dVar at hf
    split at hf
    · rename_i d hd
      cases hf
      obtain ⟨v, e1, e2⟩ := re.get i d hd
      exact ⟨v, e1, hE.now rs e2⟩
    · cases hf
theorem d_int {i : Int} {j} : DE X W (.Constant (.int i) j pos) (dC (.int i)) := pe_weak pe_int fun σ H Q ⟨io, S, env, r, S', rs, re, hf, hE⟩ => by
  cases hf
  exact hE.now rs (by simp [RV])
theorem d_bl {i : Bool} {j} : DE X W (.Constant (.bool i) j pos) (dC (.bl i)) := pe_weak pe_bl fun σ H Q ⟨io, S, env, r, S', rs, re, hf, hE⟩ => by
  cases hf
  exact hE.now rs (by simp [RV])
theorem d_non {j} : DE X W (.Constant .none j pos) (dC .non) := pe_weak pe_non fun σ H Q ⟨io, S, env, r, S', rs, re, hf, hE⟩ => by
  cases hf
  exact hE.now rs (by simp [RV])
theorem d_str {x : Str} {j} : DE X W (.Constant (.str x) j pos) (dC (.str x)) := pe_weak pe_str fun σ H Q ⟨io, S, env, r, S', rs, re, hf, hE⟩ => by
  cases hf
  exact hE.now rs (by simp [RV])
theorem tOp_of {g : D → D → Sto → Option (D × Sto)} {K : PySem.W.Frag} {mg : Str → Option Value} {σ : L2.St} {H : Hp} {Q : VK} (h : tM K mg W (dOp g fa fb) σ H Q) : tOp (rM K g) (tM K mg W fa) (tM K mg W fb) σ H Q := by
  obtain ⟨io, S, env, r, S', rs, re, hf, hE⟩ := h
  refine tG_bind rs re hf hE fun x S1 io1 H1 v e1 rs1 re1 rv1 h1 hE1 => tG_bind rs1 re1 h1 hE1 fun y S2 io2 H2 w e2 rs2 re2 rv2 h2 hE2 => ?_
  obtain ⟨d, h3, rfl⟩ := okO_some h2
  exact ⟨io2, S2, x, y, d, S', rs2, RV.mono e2 x v rv1, rv2, h3, hE2⟩
theorem d_op {op : Operator} {g : D → D → Sto → Option (D × Sto)} (ho : OpD X (binaryOp op) g) (ha : DE X W a fa) (hb : DE X W b fb) : DE X W (.BinOp a op b pos) (dOp g fa fb) := pe_weak (pe_op ho ha hb) fun _ _ _ => tOp_of
theorem d_cmp {op : CmpOp} {g : D → D → Sto → Option (D × Sto)} (ho : OpD X (compareOp op) g) (ha : DE X W a fa) (hb : DE X W b fb) (hm : behindInMarks op b = false) : DE X W (.Compare a [op] [b] pos) (dOp g fa fb) := pe_weak (pe_cmpR ho ha hb hm) fun _ _ _ => tOp_of
theorem d_ix {g : D → D → Sto → Option (D × Sto)} (ho : IxR X (rM X.K g)) (ha : DE X W a fa) (hb : DE X W b fb) (hs : PlainIx b) : DE X W (.Subscript a b pos) (dOp g fa fb) := pe_weak (pe_ix ho ha hb hs) fun _ _ _ => tOp_of
theorem d_un {op : UnaryOp} {g : D → Sto → Option (D × Sto)} (ho : UnD X (unaryOp op) g) (ha : DE X W a fa) : DE X W (.UnaryOp op a pos) (dUn g fa) := pe_weak (pe_un ho ha) fun σ H Q ⟨io, S, env, r, S', rs, re, hf, hE⟩ =>
  tG_bind rs re hf hE fun x S1 io1 H1 v e1 rs1 re1 rv1 h1 hE1 => by
    obtain ⟨d, h2, rfl⟩ := okO_some h1
    exact ⟨io1, S1, x, d, S', rs1, rv1, h2, hE1⟩
theorem da_nil : DA X W [] dNil := pa_weak pa_nil fun σ H Q ⟨io, S, env, r, S', rs, re, hf, hE⟩ => by
  cases hf
  exact hE.now rs RVs.nil
theorem da_cons (ha : DE X W e fa) (hr : DA X W es fs) (hs : starEach (e :: es) X.env = (false, eval e X.env) :: starEach es X.env := by rfl) : DA X W (e :: es) (dCons fa fs) :=
  pa_weak (pa_cons ha hr hs) fun σ H Q ⟨io, S, env, r, S', rs, re, hf, hE⟩ =>
    tG_bind rs re hf hE fun x S1 io1 H1 v e1 rs1 re1 rv1 h1 hE1 => tG_bind rs1 re1 h1 hE1 fun y S2 io2 H2 w e2 rs2 re2 rv2 h2 hE2 => by
      cases h2
      exact hE2.now rs2 (RVs.cons (RV.mono e2 x v rv1) rv2)
theorem d_tup {x1} (h : DA X W es fs) : DE X W (.Tuple es x1 pos) (dCB gTup fs) := pe_weak (pe_tup h) fun σ H Q ⟨io, S, env, r, S', rs, re, hf, hE⟩ =>
  tG_bind rs re hf hE fun x S1 io1 H1 v e1 rs1 re1 rv1 h1 hE1 => by
    obtain ⟨d, h2, rfl⟩ := okO_some h1
    unfold gTup at h2
    split at h2
    · rename_i hl
      cases h2
      refine ⟨by rw [← rv1.length]; exact hl, fun p hp => hE1 io1 _ _ (Ext.fresh hp) (rs1.tupNew hp) ?_⟩
      unfold RV
      exact ⟨p, v, rfl, SqT.of upd_same, RVs.mono (Ext.fresh hp) x v rv1⟩
    · cases h2
theorem d_lst (h : DA X W es fs) : DE X W (.List es pos) (dCB gLst fs) := pe_weak (pe_lst h) fun σ H Q ⟨io, S, env, r, S', rs, re, hf, hE⟩ =>
  tG_bind rs re hf hE fun x S1 io1 H1 v e1 rs1 re1 rv1 h1 hE1 => by
    obtain ⟨d, h2, rfl⟩ := okO_some h1
    unfold gLst at h2
    split at h2
    · rename_i hl
      cases h2
      refine ⟨by rw [← rv1.length]; exact hl, fun p hp => hE1 _ _ _ (Ext.new hp) (rs1.lstNew hp rv1) ?_⟩
      unfold RV
      exact ⟨p, rs1.lastNew, rfl⟩
    · cases h2
theorem d_callB {x : Str} {p : Pos} {id : String} {g : List D → Sto → Option (D × Sto)} (hc : CallD X (.builtin id) g) (hg : Gl X x) (hm : X.mg x = none) (hv : bootBuiltins x = some (.builtin id)) (ha : DA X W (e :: es) fs) (hn : x ≠ "__name__" := by decide) (hdb : (x == ("__debug__" : Str)) = false := by decide)
    (he : starEach (e :: es) X.env = (false, eval e X.env) :: starEach es X.env := by rfl) (hpl : (backTo pos (starEach es X.env)).any (·.1) = false := by rfl) : DE X W (.Call (.Name x p) (e :: es) [] pos) (dCB g fs) :=
  pe_weak (pe_callB hc hg hm hv ha hn hdb he hpl) fun σ H Q ⟨io, S, env, r, S', rs, re, hf, hE⟩ =>
    tG_bind rs re hf hE fun x S1 io1 H1 v e1 rs1 re1 rv1 h1 hE1 => by
      obtain ⟨d, h2, rfl⟩ := okO_some h1
      exact ⟨io1, S1, x, d, S', rs1, rv1, h2, hE1⟩
theorem d_callTy {x : Str} {p : Pos} {T : String} {g : List D → Sto → Option (D × Sto)} (hc : CallD X (.type T) g) (hg : Gl X x) (hm : X.mg x = none) (hv : bootBuiltins x = some (.type T)) (ha : DA X W (e :: es) fs) (hn : x ≠ "__name__" := by decide) (hdb : (x == ("__debug__" : Str)) = false := by decide)
    (he : starEach (e :: es) X.env = (false, eval e X.env) :: starEach es X.env := by rfl) (hpl : (backTo pos (starEach es X.env)).any (·.1) = false := by rfl) : DE X W (.Call (.Name x p) (e :: es) [] pos) (dCB g fs) :=
  pe_weak (pe_callTy hc hg hm hv ha hn hdb he hpl) fun σ H Q ⟨io, S, env, r, S', rs, re, hf, hE⟩ =>
    tG_bind rs re hf hE fun x S1 io1 H1 v e1 rs1 re1 rv1 h1 hE1 => by
      obtain ⟨d, h2, rfl⟩ := okO_some h1
      exact ⟨io1, S1, x, d, S', rs1, rv1, h2, hE1⟩
/-! tests -/
theorem truV_of {K : PySem.W.Frag} {io : List Addr} {S : Sto} {H : Hp} {d : D} {v : V} {k : Bool} (rs : RS K io S H) (r : RV K io H d v) (h : truD d S = some k) : TruV K v H k := by
  have sq : ∀ {d : D}, RV K io H d v → (seqOf d S).map (fun ds => !ds.isEmpty) = some k → TruV K v H k := fun {d} r h => by
    cases hs : seqOf d S with
    | none => rw [hs] at h; cases h
    | some ds =>
      rw [hs] at h
      obtain ⟨p, vs, rfl, e2, e3⟩ := RV.seq rs r hs
      cases h
      have el : ds.isEmpty = vs.isEmpty := by
        have := e3.length
        cases ds <;> cases vs <;> simp_all
      show (∃ xs, SqL K H p xs ∧ (!ds.isEmpty) = !xs.isEmpty) ∨ (∃ xs, SqT K H p xs ∧ (!ds.isEmpty) = !xs.isEmpty) ∨ _
      rw [el]
      rcases e2 with e2 | e2
      · exact .inl ⟨vs, e2, rfl⟩
      · exact .inr (.inl ⟨vs, e2, rfl⟩)
  cases d with
  | non => unfold RV at r; subst r; cases h; rfl
  | bl _ => unfold RV at r; subst r; cases h; rfl
  | int _ => unfold RV at r; subst r; cases h; rfl
  | str x =>
    unfold RV at r
    subst r
    unfold truD at h
    split at h <;> try (rename_i e; cases e)
    · split at h
      · rename_i hl
        cases h
        exact ⟨hl, rfl⟩
      · cases h
    · rename_i h1 _ _; simp at *
  | tup ds => exact sq r h
  | ref n => exact sq r h
theorem okT_some {x : Option Bool} {S S' : Sto} {r : R Bool} (h : okT x S = some (r, S')) : ∃ b, x = some b ∧ r = .ok b ∧ S' = S := by
  cases x with
  | none => cases h
  | some b =>
    cases h
    exact ⟨b, rfl, rfl, rfl⟩
theorem dt_of (ha : DE X W a fa) (he : ∀ whole, isTrue a X.env whole = (do let v ← whole; standAt a.pos; holding [v] (truthy v)) := by intro _; rfl) : DT X W a (dTru fa) :=
  pt_weak (pt_truth ha he) fun σ H Q ⟨io, S, env, r, S', rs, re, hf, hE⟩ =>
    tG_bind rs re hf hE fun x S1 io1 H1 v e1 rs1 re1 rv1 h1 hE1 => by
      obtain ⟨k, h2, rfl, rfl⟩ := okT_some h1
      exact ⟨k, truV_of rs1 rv1 h2, hE1.now rs1 rfl⟩
/-- a comparison as a test -/
def blOf (d : D) : Option Bool := match d with
  | .bl b => some b
  | _ => none
def dBl (fa : Ev → Sto → Ans D) : Ev → Sto → Ans Bool := fun env S => bindR (fa env S) fun a S1 => okT (blOf a) S1
theorem dt_cmp {op : CmpOp} {g : D → D → Sto → Option (D × Sto)} (ho : OpD X (compareOp op) g) (ha : DE X W a fa) (hb : DE X W b fb) (hm : behindInMarks op b = false) : DT X W (.Compare a [op] [b] pos) (dBl (dOp g fa fb)) :=
  pt_weak (pt_cmpR ho ha hb hm) fun σ H Q ⟨io, S, env, r, S', rs, re, hf, hE⟩ => tOp_of (tG_bind rs re hf hE fun x S1 io1 H1 v e1 rs1 re1 rv1 h1 hE1 => by
      obtain ⟨k, h2, rfl, rfl⟩ := okT_some h1
      cases x <;> first | cases h2 | skip
      unfold RV at rv1
      subst rv1
      exact ⟨_, rfl, hE1.now rs1 rfl⟩)
variable {ga gb : Ev → Sto → Ans Bool}
theorem dt_not (ha : DT X W a ga) : DT X W (.UnaryOp .Not a pos) (dNot ga) := pt_weak (pt_not ha) fun σ H Q ⟨io, S, env, r, S', rs, re, hf, hE⟩ =>
  tG_bind rs re hf hE fun x S1 io1 H1 v e1 rs1 re1 rv1 h1 hE1 => by
    cases h1
    cases rv1
    exact hE1.now rs1 rfl
theorem dw_and1 (ha : DT X W a ga) : DW X W (.BoolOp .And [a] pos) ga := pw_and1 ha
theorem dw_or1 (ha : DT X W a ga) : DW X W (.BoolOp .Or [a] pos) ga := pw_or1 ha
theorem dw_and (ha : DT X W a ga) (hb : DW X W (.BoolOp .And (b :: rest) pos) gb) : DW X W (.BoolOp .And (a :: b :: rest) pos) (dAnd ga gb) := pw_weak (pw_and ha hb) fun σ H Q ⟨io, S, env, r, S', rs, re, hf, hE⟩ =>
  tG_bind rs re hf hE fun x S1 io1 H1 v e1 rs1 re1 rv1 h1 hE1 => by
    cases rv1
    cases x with
    | true => exact ⟨io1, S1, env, r, S', rs1, re1, h1, hE1⟩
    | false =>
      cases h1
      exact hE1.now rs1 rfl
theorem dw_or (ha : DT X W a ga) (hb : DW X W (.BoolOp .Or (b :: rest) pos) gb) : DW X W (.BoolOp .Or (a :: b :: rest) pos) (dOr ga gb) := pw_weak (pw_or ha hb) fun σ H Q ⟨io, S, env, r, S', rs, re, hf, hE⟩ =>
  tG_bind rs re hf hE fun x S1 io1 H1 v e1 rs1 re1 rv1 h1 hE1 => by
    cases rv1
    cases x with
    | false => exact ⟨io1, S1, env, r, S', rs1, re1, h1, hE1⟩
    | true =>
      cases h1
      exact hE1.now rs1 rfl
theorem dt_w (h : DW X W a ga) : DT X W a ga := h.pt
/-! and, or, not as values -/
theorem d_one {op} (h : DE X W a fa) : DE X W (.BoolOp op [a] pos) fa := pe_one h
theorem d_and (ha : DE X W a fa) (hb : DE X W (.BoolOp .And (b :: rest) pos) fb) : DE X W (.BoolOp .And (a :: b :: rest) pos) (dAndV fa fb) := pe_weak (pe_andT ha hb) fun σ H Q ⟨io, S, env, r, S', rs, re, hf, hE⟩ =>
  tG_bind rs re hf hE fun x S1 io1 H1 v e1 rs1 re1 rv1 h1 hE1 => by
    cases ht : truD x S1 with
    | none => rw [ht] at h1; cases h1
    | some k =>
      rw [ht] at h1
      refine ⟨k, truV_of rs1 rv1 ht, ?_⟩
      cases k with
      | true => exact ⟨io1, S1, env, r, S', rs1, re1, h1, hE1⟩
      | false =>
        cases h1
        exact hE1.now rs1 rv1
theorem d_or (ha : DE X W a fa) (hb : DE X W (.BoolOp .Or (b :: rest) pos) fb) : DE X W (.BoolOp .Or (a :: b :: rest) pos) (dOrV fa fb) := pe_weak (pe_orT ha hb) fun σ H Q ⟨io, S, env, r, S', rs, re, hf, hE⟩ =>
  tG_bind rs re hf hE fun x S1 io1 H1 v e1 rs1 re1 rv1 h1 hE1 => by
    cases ht : truD x S1 with
    | none => rw [ht] at h1; cases h1
    | some k =>
      rw [ht] at h1
      refine ⟨k, truV_of rs1 rv1 ht, ?_⟩
      cases k with
      | false => exact ⟨io1, S1, env, r, S', rs1, re1, h1, hE1⟩
      | true =>
        cases h1
        exact hE1.now rs1 rv1
theorem d_not (ha : DE X W a fa) : DE X W (.UnaryOp .Not a pos) (dNotV fa) := pe_weak (pe_notT ha) fun σ H Q ⟨io, S, env, r, S', rs, re, hf, hE⟩ =>
  tG_bind rs re hf hE fun x S1 io1 H1 v e1 rs1 re1 rv1 h1 hE1 => by
    cases ht : truD x S1 with
    | none => rw [ht] at h1; cases h1
    | some k =>
      rw [ht] at h1
      cases h1
      exact ⟨k, truV_of rs1 rv1 ht, hE1.now rs1 (by simp [RV])⟩
theorem d_if {c : Expr} {gc : Ev → Sto → Ans Bool} (hc : DT X W c gc) (ha : DE X W a fa) (hb : DE X W b fb) : DE X W (.IfExp c a b pos) (dIf gc fa fb) := pe_weak (pe_ifExp hc ha hb) fun σ H Q ⟨io, S, env, r, S', rs, re, hf, hE⟩ =>
  tG_bind rs re hf hE fun x S1 io1 H1 v e1 rs1 re1 rv1 h1 hE1 => by
    cases rv1
    cases x with
    | true => exact ⟨io1, S1, env, r, S', rs1, re1, h1, hE1⟩
    | false => exact ⟨io1, S1, env, r, S', rs1, re1, h1, hE1⟩
end
end DL
namespace DL
open PySem PySem.Spec PyProof.Rows L2

/-! ### statements -/
inductive Out where
  | nx | rt (d : D) | bk | ct | ex (e : Exn)
abbrev AnsS := Option (Out × Ev × Sto)
def bindS {α : Type} (x : Ans α) (env : Ev) (k : α → Sto → AnsS) : AnsS := match x with
  | none => none
  | some (.ex e, S) => some (.ex e, env, S)
  | some (.ok a, S) => k a S
section
variable (K : PySem.W.Frag) (mg : Str → Option Value) (W : XK)
def EndS (io : List Addr) (H : Hp) (o : Out) (env' : Ev) (S' : Sto) (E : Ends) : Prop := match o with
  | .nx => ∀ io' H' σ', Ext K io H io' H' → RS K io' S' H' → RE K io' H' env' σ' → E.nx σ' H'
  | .bk => ∀ io' H' σ', Ext K io H io' H' → RS K io' S' H' → RE K io' H' env' σ' → E.bk σ' H'
  | .ct => ∀ io' H' σ', Ext K io H io' H' → RS K io' S' H' → RE K io' H' env' σ' → E.ct σ' H'
  | .rt d => ∀ io' H' v, Ext K io H io' H' → RS K io' S' H' → RV K io' H' d v → E.rt v H'
  | .ex e => ∀ io' H' c dd, Ext K io H io' H' → RS K io' S' H' → RX K mg io' H' e c dd → W c dd H'
def tS (f : Ev → Sto → AnsS) : TS := fun E σ H => ∃ io S env o env' S', RS K io S H ∧ RE K io H env σ ∧ f env S = some (o, env', S') ∧ EndS K mg W io H o env' S' E
/-- a store o[i] = v, from one on data -/
def rMSet (g : D → D → D → Sto → Option Sto) : TSet := fun o i v H Q => ∃ io S a b d S', RS K io S H ∧ RV K io H a o ∧ RV K io H b i ∧ RV K io H d v ∧ g a b d S = some S' ∧ ∀ io' H', Ext K io H io' H' → RS K io' S' H' → Q H'
end
abbrev DS (X : Cx) (W : XK) (st : Stmt) (f : Ev → Sto → AnsS) : Prop := PS X st (tS X.K X.mg W f)
abbrev DSs (X : Cx) (W : XK) (st : List Stmt) (f : Ev → Sto → AnsS) : Prop := PSs X st (tS X.K X.mg W f)
abbrev SetD (X : Cx) (g : D → D → D → Sto → Option Sto) : Prop := PSet X (rMSet X.K g)

section
variable {K : PySem.W.Frag} {mg : Str → Option Value} {W : XK} {α β : Type} {rel : List Addr → Hp → α → β → Prop} {io io' : List Addr} {H H' : Hp} {S S' : Sto} {σ : L2.St} {env env' : Ev} {o : Out}
theorem EndS.mono {E : Ends} (h : EndS K mg W io H o env' S' E) (e : Ext K io H io' H') : EndS K mg W io' H' o env' S' E := by
  cases o with
  | nx => exact fun io2 H2 v e2 => h io2 H2 v (e.trans e2)
  | bk => exact fun io2 H2 v e2 => h io2 H2 v (e.trans e2)
  | ct => exact fun io2 H2 v e2 => h io2 H2 v (e.trans e2)
  | rt d => exact fun io2 H2 v e2 => h io2 H2 v (e.trans e2)
  | ex x => exact fun io2 H2 c dd e2 => h io2 H2 c dd (e.trans e2)
theorem tG_bindS {f : Ev → Sto → Ans α} {k : α → Sto → AnsS} {Q : β → Hp → Prop} {E : Ends} (rs : RS K io S H) (re : RE K io H env σ) (h : bindS (f env S) env k = some (o, env', S')) (hE : EndS K mg W io H o env' S' E)
    (hk : ∀ a S1 io1 H1 v, f env S = some (.ok a, S1) → Ext K io H io1 H1 → RS K io1 S1 H1 → RE K io1 H1 env σ → rel io1 H1 a v → k a S1 = some (o, env', S') → EndS K mg W io1 H1 o env' S' E → Q v H1) : tG K mg W rel f σ H Q := by
  cases hf : f env S with
  | none =>
    rw [hf] at h
    cases h
  | some p =>
    obtain ⟨ra, S1⟩ := p
    rw [hf] at h
    cases ra with
    | ok a => exact ⟨io, S, env, .ok a, S1, rs, re, hf, fun io1 H1 v e rs1 rv => hk a S1 io1 H1 v hf e rs1 (re.mono e) rv h (hE.mono e)⟩
    | ex e =>
      cases h
      exact ⟨io, S, env, .ex e, _, rs, re, hf, hE⟩
end

/-! ### targets -/
inductive Tg where
  | nm (i : Nat) | tp (l : List Tg)
mutual
def Tg.put : Tg → D → Ev → Option Ev
  | .nm i, d, env => some (env.set i (some d))
  | .tp l, .tup ds, env => Tg.puts l ds env
  | .tp _, _, _ => none
def Tg.puts : List Tg → List D → Ev → Option Ev
  | [], [], env => some env
  | t :: ts, d :: ds, env => match Tg.put t d env with
    | some env1 => Tg.puts ts ds env1
    | none => none
  | _, _, _ => none
end
mutual
def Tg.slots : Tg → List Nat
  | .nm i => [i]
  | .tp l => Tg.slotss l
def Tg.slotss : List Tg → List Nat
  | [] => []
  | t :: ts => Tg.slots t ++ Tg.slotss ts
end
theorem Tg.puts_len : ∀ {l : List Tg} {ds : List D} {env env' : Ev}, Tg.puts l ds env = some env' → ds.length = l.length
  | [], [], _, _, _ => rfl
  | t :: ts, d :: ds, env, env', h => by
    unfold Tg.puts at h
    split at h
    · simpa using Tg.puts_len h
    · cases h
  | [], _ :: _, _, _, h => by simp [Tg.puts] at h
  | _ :: _, [], _, _, h => by simp [Tg.puts] at h
section
variable (K : PySem.W.Frag)
def tTg (t : Tg) : TG := fun v σ H Q => ∃ io env d env', RE K io H env σ ∧ RV K io H d v ∧ t.put d env = some env' ∧ ∀ σ', RE K io H env' σ' → (∀ j, j ∉ t.slots → σ'[j]? = σ[j]?) → σ'.length = σ.length → Q σ' H
def tTgs (t : List Tg) : TGs := fun vs σ H Q => ∃ io env ds env', RE K io H env σ ∧ RVs K io H ds vs ∧ Tg.puts t ds env = some env' ∧ ∀ σ', RE K io H env' σ' → (∀ j, j ∉ Tg.slotss t → σ'[j]? = σ[j]?) → σ'.length = σ.length → Q σ' H
end
section
variable {X : Cx} {pos : Pos}
theorem pg_weak {tg : Expr} {t t' : TG} (h : PG X tg t) (w : ∀ v σ H Q, t' v σ H Q → t v σ H Q) : PG X tg t' := ⟨fun pins s σ H v u Q I r q => h.run pins s σ H v u Q I r (w v σ H Q q)⟩
theorem pgs_weak {tg : List Expr} {t t' : TGs} (h : PGs X tg t) (w : ∀ v σ H Q, t' v σ H Q → t v σ H Q) : PGs X tg t' := ⟨fun pins s σ H v u Q I r q => h.run pins s σ H v u Q I r (w v σ H Q q)⟩
theorem dg_name {i : Nat} {x : Str} (hN : X.N.Nodup) (hi : X.N[i]? = some x) (hx : Loc X.env.scope x) (hf : X.fn x = true ∨ X.env.scope.names.lookup x = some .local := by first | exact .inl rfl | exact .inr rfl | assumption) : PG X (.Name x pos) (tTg X.K (.nm i)) :=
  pg_weak (pg_name hN hi hx hf) fun v σ H Q ⟨io, env, d, env', re, rv, hp, q⟩ => by
    unfold Tg.put at hp
    cases hp
    refine q _ (re.set i rv) (fun j hj => List.getElem?_set_ne fun z => hj ?_) (by simp)
    simp [Tg.slots, z]
theorem dgs_nil : PGs X [] (tTgs X.K []) := pgs_weak pgs_nil fun vs σ H Q ⟨io, env, ds, env', re, rv, hp, q⟩ => by
  have e := Tg.puts_len hp
  cases ds with
  | cons _ _ => simp at e
  | nil =>
    unfold RVs at rv
    unfold Tg.puts at hp
    cases hp
    exact ⟨rv, q σ re (fun _ _ => rfl) rfl⟩
theorem dgs_cons {e : Expr} {es : List Expr} {t : Tg} {ts : List Tg} (h1 : PG X e (tTg X.K t)) (h2 : PGs X es (tTgs X.K ts))
    (hs : (assignEach (e :: es) X.env).map (·.2) = assign e X.env :: (assignEach es X.env).map (·.2) := by rfl) : PGs X (e :: es) (tTgs X.K (t :: ts)) :=
  pgs_weak (pgs_cons h1 h2 hs) fun vs σ H Q ⟨io, env, ds, env', re, rv, hp, q⟩ => by
    cases ds with
    | nil => simp [Tg.puts] at hp
    | cons d ds =>
      unfold RVs at rv
      obtain ⟨v, r, rfl, rv1, rv2⟩ := rv
      unfold Tg.puts at hp
      split at hp
      · rename_i env1 h1
        refine ⟨v, r, rfl, io, env, d, env1, re, rv1, h1, fun σ1 re1 f1 l1 => ⟨io, env1, ds, env', re1, rv2, hp, fun σ2 re2 f2 l2 => q σ2 re2 (fun j hj => ?_) (l2.trans l1)⟩⟩
        have hj' : j ∉ t.slots ∧ j ∉ Tg.slotss ts := by simpa [Tg.slotss] using hj
        exact (f2 j hj'.2).trans (f1 j hj'.1)
      · cases hp
theorem dg_tup {es : List Expr} {k : Nat} {ts : List Tg} (hc : X.calm = true) (h : PGs X es (tTgs X.K ts)) (hl : ts.length = es.length := by rfl)
    (hn : (assignEach es X.env).length = es.length := by rfl) (hst : (assignEach es X.env).findIdx? (·.1) = none := by rfl) : PG X (.Tuple es k pos) (tTg X.K (.tp ts)) :=
  pg_weak (pg_tup hc h hn hst) fun v σ H Q ⟨io, env, d, env', re, rv, hp, q⟩ => by
    cases d with
    | tup ds =>
      unfold RV at rv
      obtain ⟨a, vs, rfl, h1, h2⟩ := rv
      unfold Tg.put at hp
      exact ⟨a, vs, rfl, h1, by rw [← h2.length, Tg.puts_len hp, hl], io, env, ds, env', re, h2, hp, fun σ' re' f l => q σ' re' (by simpa [Tg.slots] using f) l⟩
    | non => simp [Tg.put] at hp
    | bl _ => simp [Tg.put] at hp
    | int _ => simp [Tg.put] at hp
    | str _ => simp [Tg.put] at hp
    | ref _ => simp [Tg.put] at hp
end

/-! ### the computations -/
def sNext : Ev → Sto → AnsS := fun env S => some (.nx, env, S)
def sBreak : Ev → Sto → AnsS := fun env S => some (.bk, env, S)
def sCont : Ev → Sto → AnsS := fun env S => some (.ct, env, S)
def sSeq (f g : Ev → Sto → AnsS) : Ev → Sto → AnsS := fun env S => match f env S with
  | some (.nx, env1, S1) => g env1 S1
  | x => x
def sAsg (t : Tg) (fe : Ev → Sto → Ans D) : Ev → Sto → AnsS := fun env S => bindS (fe env S) env fun d S1 => match t.put d env with
  | some env1 => some (.nx, env1, S1)
  | none => none
def sSub (g : D → D → D → Sto → Option Sto) (fe fo fi : Ev → Sto → Ans D) : Ev → Sto → AnsS := fun env S => bindS (fe env S) env fun d S1 => bindS (fo env S1) env fun o S2 => bindS (fi env S2) env fun i S3 => match g o i d S3 with
  | some S4 => some (.nx, env, S4)
  | none => none
def sAug (i : Nat) (g : D → D → Sto → Option (D × Sto)) (fe : Ev → Sto → Ans D) : Ev → Sto → AnsS := fun env S => match env[i]? with
  | some (some x) => bindS (fe env S) env fun y S1 => match g x y S1 with
    | some (z, S2) => some (.nx, env.set i (some z), S2)
    | none => none
  | _ => none
def sAugS (gg gp : D → D → Sto → Option (D × Sto)) (gs : D → D → D → Sto → Option Sto) (fo fi fe : Ev → Sto → Ans D) : Ev → Sto → AnsS := fun env S =>
  bindS (fo env S) env fun o S1 => bindS (fi env S1) env fun i S2 => bindS (okO (gg o i S2)) env fun x S3 => bindS (fe env S3) env fun y S4 => bindS (okO (gp x y S4)) env fun z S5 => match gs o i z S5 with
  | some S6 => some (.nx, env, S6)
  | none => none
def sExpr (fe : Ev → Sto → Ans D) : Ev → Sto → AnsS := fun env S => bindS (fe env S) env fun _ S1 => some (.nx, env, S1)
def sRet (fe : Ev → Sto → Ans D) : Ev → Sto → AnsS := fun env S => bindS (fe env S) env fun d S1 => some (.rt d, env, S1)
def sRetN : Ev → Sto → AnsS := fun env S => some (.rt .non, env, S)
def sIf (fc : Ev → Sto → Ans Bool) (f g : Ev → Sto → AnsS) : Ev → Sto → AnsS := fun env S => bindS (fc env S) env fun c S1 => if c = true then f env S1 else g env S1
def whileD (fc : Ev → Sto → Ans Bool) (fb : Ev → Sto → AnsS) : Nat → Ev → Sto → AnsS
  | 0, _, _ => none
  | n + 1, env, S => bindS (fc env S) env fun c S1 => if c = true then match fb env S1 with
      | some (.nx, env2, S2) => whileD fc fb n env2 S2
      | some (.ct, env2, S2) => whileD fc fb n env2 S2
      | some (.bk, env2, S2) => some (.nx, env2, S2)
      | x => x
    else some (.nx, env, S1)
def sWhile (n : Nat) (fc : Ev → Sto → Ans Bool) (fb : Ev → Sto → AnsS) : Ev → Sto → AnsS := whileD fc fb n
/-- what a loop walks: its items, as long as ok holds -/
structure Wk where
  ok : Sto → Prop
  items : List D
open Classical in
noncomputable def forD (ok : Sto → Prop) (t : Tg) (fb : Ev → Sto → AnsS) : List D → Ev → Sto → AnsS
  | [], env, S => if ok S then some (.nx, env, S) else none
  | x :: xs, env, S => if ok S then match t.put x env with
      | none => none
      | some env1 => match fb env1 S with
        | some (.nx, env2, S2) => forD ok t fb xs env2 S2
        | some (.ct, env2, S2) => forD ok t fb xs env2 S2
        | some (.bk, env2, S2) => some (.nx, env2, S2)
        | y => y
    else none
noncomputable def sFor (fi : Ev → Sto → Ans Wk) (t : Tg) (fb : Ev → Sto → AnsS) : Ev → Sto → AnsS := fun env S => bindS (fi env S) env fun w S1 => forD w.ok t fb w.items env S1

section
variable (K : PySem.W.Frag) (mg : Str → Option Value) (W : XK)
def ItOk (io0 : List Addr) (H0 : Hp) (w : Wk) (J : It) : Prop := ∀ (i : Nat) (io : List Addr) (S : Sto) (H : Hp), Ext K io0 H0 io H → RS K io S H → w.ok S →
  (w.items.length ≤ i → J.stop i H) ∧ ∀ x, w.items[i]? = some x → J.go i H ∧ ∀ v H', J.yld i H v H' → ∃ io', Ext K io H io' H' ∧ RS K io' S H' ∧ RV K io' H' x v
def tIM (fi : Ev → Sto → Ans Wk) : TI := tG K mg W (ItOk K) fi
end
abbrev DI (X : Cx) (W : XK) (tg e : Expr) (fi : Ev → Sto → Ans Wk) : Prop := PI X tg e (tIM X.K X.mg W fi)

/-! ### the rules -/
section
variable {X : Cx} {W : XK} {st : Stmt} {rest : List Stmt} {e a b : Expr} {f g : Ev → Sto → AnsS} {fe fo fi : Ev → Sto → Ans D} {pos : Pos}
theorem dss_nil : DSs X W [] sNext := pss_weak pss_nil fun E σ H ⟨io, S, env, o, env', S', rs, re, hf, hE⟩ => by
  cases hf
  exact hE io H σ Ext.refl rs re
theorem dss_cons (h1 : DS X W st f) (h2 : DSs X W rest g) : DSs X W (st :: rest) (sSeq f g) := pss_weak (pss_cons h1 h2) fun E σ H ⟨io, S, env, o, env', S', rs, re, hf, hE⟩ => by
  unfold sSeq at hf
  cases h : f env S with
  | none =>
    rw [h] at hf
    cases hf
  | some p =>
    obtain ⟨o1, env1, S1⟩ := p
    rw [h] at hf
    cases o1 with
    | nx => exact ⟨io, S, env, .nx, env1, S1, rs, re, h, fun io1 H1 σ1 e1 rs1 re1 => ⟨io1, S1, env1, o, env', S', rs1, re1, hf, hE.mono e1⟩⟩
    | rt d => cases hf; exact ⟨io, S, env, _, _, _, rs, re, h, hE⟩
    | bk => cases hf; exact ⟨io, S, env, _, _, _, rs, re, h, hE⟩
    | ct => cases hf; exact ⟨io, S, env, _, _, _, rs, re, h, hE⟩
    | ex x => cases hf; exact ⟨io, S, env, _, _, _, rs, re, h, hE⟩
theorem dss_one (h1 : DS X W st f) : DSs X W [st] f := pss_one h1
theorem ds_pass : DS X W (.Pass pos) sNext := ps_weak ps_pass fun E σ H ⟨io, S, env, o, env', S', rs, re, hf, hE⟩ => by
  cases hf
  exact hE io H σ Ext.refl rs re
theorem ds_break : DS X W (.Break pos) sBreak := ps_weak ps_break fun E σ H ⟨io, S, env, o, env', S', rs, re, hf, hE⟩ => by
  cases hf
  exact hE io H σ Ext.refl rs re
theorem ds_continue : DS X W (.Continue pos) sCont := ps_weak ps_continue fun E σ H ⟨io, S, env, o, env', S', rs, re, hf, hE⟩ => by
  cases hf
  exact hE io H σ Ext.refl rs re
theorem ds_set {i : Nat} {x : Str} {pos' : Pos} (hN : X.N.Nodup) (hi : X.N[i]? = some x) (hx : Loc X.env.scope x) (he : DE X W e fe) (hs : swapsWith e (some (.Name x pos')) pos.line X.env = pure false := by rfl) (hf : X.fn x = true ∨ X.env.scope.names.lookup x = some .local := by first | exact .inl rfl | exact .inr rfl | assumption) :
    DS X W (.Assign [.Name x pos'] e pos) (sAsg (.nm i) fe) := ps_weak (ps_set hN hi hx he hs hf) fun E σ H ⟨io, S, env, o, env', S', rs, re, hf, hE⟩ =>
  tG_bindS rs re hf hE fun d S1 io1 H1 v _ e1 rs1 re1 rv h1 hE1 => by
    simp only [Tg.put] at h1
    cases h1
    exact hE1 io1 H1 _ Ext.refl rs1 (re1.set i rv)
theorem ds_asg {tg : Expr} {t : Tg} (he : DE X W e fe) (hg : PG X tg (tTg X.K t)) (hs : swapsWithSole [tg] e pos.line X.env = pure false := by rfl) (hw : swappedStores [tg] e X.env = pure none := by rfl)
    (h1 : (assignEach [tg] X.env).map (·.2) = [assign tg X.env] := by rfl) : DS X W (.Assign [tg] e pos) (sAsg t fe) := ps_weak (ps_asg he hg hs hw h1) fun E σ H ⟨io, S, env, o, env', S', rs, re, hf, hE⟩ =>
  tG_bindS rs re hf hE fun d S1 io1 H1 v _ e1 rs1 re1 rv h1 hE1 => by
    cases hp : t.put d env with
    | none =>
      rw [hp] at h1
      cases h1
    | some env1 =>
      rw [hp] at h1
      cases h1
      exact ⟨io1, env, d, _, re1, rv, hp, fun σ' re' _ _ => hE1 io1 H1 σ' Ext.refl rs1 re'⟩
theorem ds_sub {oe ie : Expr} {p : Pos} {gs : D → D → D → Sto → Option Sto} (hs' : SetD X gs) (he : DE X W e fe) (ho : DE X W oe fo) (hi : DE X W ie fi)
    (ha : ∀ v, assign (.Subscript oe ie p) X.env v = (do
      let ov ← holding [v] (eval oe X.env)
      let iv ← holding [v, ov] (eval ie X.env)
      standAt p
      holding [v, ov, iv] (setItem ov iv v)
      release [v, ov, iv] []) := by intro _; rfl) (hs : swapsWithSole [.Subscript oe ie p] e pos.line X.env = pure false := by rfl) (hw : swappedStores [.Subscript oe ie p] e X.env = pure none := by rfl)
    (h1 : (assignEach [.Subscript oe ie p] X.env).map (·.2) = [assign (.Subscript oe ie p) X.env] := by rfl) : DS X W (.Assign [.Subscript oe ie p] e pos) (sSub gs fe fo fi) := ps_weak (ps_asg he (pg_sub ho hi hs' ha) hs hw h1) fun E σ H ⟨io, S, env, o, env', S', rs, re, hf, hE⟩ =>
  tG_bindS rs re hf hE fun d S1 io1 H1 v _ e1 rs1 re1 rv h1 hE1 => tG_bindS rs1 re1 h1 hE1 fun o2 S2 io2 H2 v2 _ e2 rs2 re2 rv2 h2 hE2 => tG_bindS rs2 re2 h2 hE2 fun i3 S3 io3 H3 v3 _ e3 rs3 re3 rv3 h3 hE3 => by
    cases hp : gs o2 i3 d S3 with
    | none =>
      rw [hp] at h3
      cases h3
    | some S4 =>
      rw [hp] at h3
      cases h3
      exact ⟨io3, S3, o2, i3, d, _, rs3, RV.mono e3 _ _ rv2, rv3, RV.mono (e2.trans e3) _ _ rv, hp, fun io4 H4 e4 rs4 => hE3 io4 H4 σ e4 rs4 (re3.mono e4)⟩
theorem ds_aug {i : Nat} {x : Str} {op : Operator} {g : D → D → Sto → Option (D × Sto)} {pos' : Pos} (hN : X.N.Nodup) (hi : X.N[i]? = some x) (hx : Loc X.env.scope x) (ho : OpD X (inplaceOp op) g) (he : DE X W e fe) (hf : X.fn x = true ∨ X.env.scope.names.lookup x = some .local := by first | exact .inl rfl | exact .inr rfl | assumption) :
    DS X W (.AugAssign (.Name x pos') op e pos) (sAug i g fe) := ps_weak (ps_aug (ti := rM X.K g) hN hi hx he ho hf) fun E σ H ⟨io, S, env, o, env', S', rs, re, hf, hE⟩ => by
  unfold sAug at hf
  split at hf
  · rename_i d hd
    obtain ⟨u, hu1, hu2⟩ := re.get i d hd
    refine ⟨u, hu1, tG_bindS rs re hf hE fun y S1 io1 H1 v _ e1 rs1 re1 rv h1 hE1 => ?_⟩
    cases hp : g d y S1 with
    | none =>
      rw [hp] at h1
      cases h1
    | some q =>
      obtain ⟨z, S2⟩ := q
      rw [hp] at h1
      cases h1
      exact ⟨io1, S1, d, y, z, _, rs1, RV.mono e1 _ _ hu2, rv, hp, fun io2 H2 v2 e2 rs2 rv2 => hE1 io2 H2 _ e2 rs2 ((re1.mono e2).set i rv2)⟩
  · cases hf
theorem ds_augS {oe ie : Expr} {tpos : Pos} {op : Operator} {gg gp : D → D → Sto → Option (D × Sto)} {gs : D → D → D → Sto → Option Sto} (hg : OpD X getItem gg) (hp : OpD X (inplaceOp op) gp) (hs : SetD X gs) (ho : DE X W oe fo) (hi : DE X W ie fi) (he : DE X W e fe)
    (ha : ∀ ov iv new, augStore ie ov iv new = (do holding [new, ov, iv] (setItem ov iv new); release [new, ov, iv] []; pure .next) := by intros; rfl) : DS X W (.AugAssign (.Subscript oe ie tpos) op e pos) (sAugS gg gp gs fo fi fe) :=
  ps_weak (ps_augS (tget := rM X.K gg) (tip := rM X.K gp) ho hi hg he hp hs ha) fun E σ H ⟨io, S, env, o, env', S', rs, re, hf, hE⟩ =>
    tG_bindS rs re hf hE fun o1 S1 io1 H1 v1 _ e1 rs1 re1 rv1 h1 hE1 => tG_bindS rs1 re1 h1 hE1 fun i2 S2 io2 H2 v2 _ e2 rs2 re2 rv2 h2 hE2 => by
      cases hx : gg o1 i2 S2 with
      | none => rw [hx] at h2; cases h2
      | some p =>
        obtain ⟨x, S3⟩ := p
        rw [hx] at h2
        refine ⟨io2, S2, o1, i2, x, S3, rs2, RV.mono e2 _ _ rv1, rv2, hx, fun io3 H3 v3 e3 rs3 rv3 => tG_bindS rs3 (re2.mono e3) h2 (hE2.mono e3) fun y S4 io4 H4 v4 _ e4 rs4 re4 rv4 h4 hE4 => ?_⟩
        cases hz : gp x y S4 with
        | none => rw [hz] at h4; cases h4
        | some p =>
          obtain ⟨z, S5⟩ := p
          rw [hz] at h4
          refine ⟨io4, S4, x, y, z, S5, rs4, RV.mono e4 _ _ rv3, rv4, hz, fun io5 H5 v5 e5 rs5 rv5 => ?_⟩
          cases hw : gs o1 i2 z S5 with
          | none =>
            have h5 : (match gs o1 i2 z S5 with | some S6 => some (Out.nx, env, S6) | none => none) = some (o, env', S') := h4
            rw [hw] at h5; cases h5
          | some S6 =>
            have h5 : (match gs o1 i2 z S5 with | some S6 => some (Out.nx, env, S6) | none => none) = some (o, env', S') := h4
            rw [hw] at h5
            cases h5
            exact ⟨io5, S5, o1, i2, z, _, rs5, RV.mono (((e2.trans e3).trans e4).trans e5) _ _ rv1, RV.mono ((e3.trans e4).trans e5) _ _ rv2, rv5, hw, fun io6 H6 e6 rs6 => hE4 io6 H6 σ (e5.trans e6) rs6 ((re4.mono e5).mono e6)⟩
theorem ds_expr (he : DE X W e fe) (hs : swapsWith e none pos.line X.env = pure false := by rfl) : DS X W (.Expr e pos) (sExpr fe) := ps_weak (ps_expr he hs) fun E σ H ⟨io, S, env, o, env', S', rs, re, hf, hE⟩ =>
  tG_bindS rs re hf hE fun d S1 io1 H1 v _ e1 rs1 re1 rv h1 hE1 => by
    cases h1
    exact hE1 io1 H1 σ Ext.refl rs1 re1
theorem ds_ret (he : DE X W e fe) : DS X W (.Return (some e) pos) (sRet fe) := ps_weak (ps_ret he) fun E σ H ⟨io, S, env, o, env', S', rs, re, hf, hE⟩ =>
  tG_bindS rs re hf hE fun d S1 io1 H1 v _ e1 rs1 re1 rv h1 hE1 => by
    cases h1
    exact hE1 io1 H1 v Ext.refl rs1 rv
theorem ds_retN : DS X W (.Return none pos) sRetN := ps_weak ps_retN fun E σ H ⟨io, S, env, o, env', S', rs, re, hf, hE⟩ => by
  cases hf
  exact hE io H .non Ext.refl rs (by simp [RV])
theorem ds_if {c : Expr} {p q : List Stmt} {gc : Ev → Sto → Ans Bool} (hc : DT X W c gc) (ha : DSs X W p f) (hb : DSs X W q g) : DS X W (.If c p q pos) (sIf gc f g) := ps_weak (ps_if hc ha hb) fun E σ H ⟨io, S, env, o, env', S', rs, re, hf, hE⟩ =>
  tG_bindS rs re hf hE fun d S1 io1 H1 v _ e1 rs1 re1 rv h1 hE1 => by
    cases rv
    cases d with
    | true => exact ⟨io1, S1, env, o, env', S', rs1, re1, h1, hE1⟩
    | false => exact ⟨io1, S1, env, o, env', S', rs1, re1, h1, hE1⟩
theorem ds_while (n : Nat) {c : Expr} {body : List Stmt} {gc : Ev → Sto → Ans Bool} (hp : PassesOwn (model X.prog X.w) X.A X.env X.xe) (hc : DT X W c gc) (hb : DSs X W body f) : DS X W (.While c body [] pos) (sWhile n gc f) := ps_weak (ps_while hp hc hb) fun E σ H ⟨io, S, env, o, env', S', rs, re, hf, hE⟩ => by
  refine ⟨fun m σ H => ∃ io S env, RS X.K io S H ∧ RE X.K io H env σ ∧ whileD gc f m env S = some (o, env', S') ∧ EndS X.K X.mg W io H o env' S' E, ⟨n, io, S, env, rs, re, hf, hE⟩, ?_⟩
  rintro m σ H ⟨io, S, env, rs, re, hf, hE⟩
  cases m with
  | zero => cases hf
  | succ m =>
    refine tG_bindS rs re hf hE fun d S1 io1 H1 v _ e1 rs1 re1 rv h1 hE1 => ?_
    cases rv
    cases d with
    | false =>
      cases h1
      exact hE1 io1 H1 σ Ext.refl rs1 re1
    | true =>
      rw [if_pos rfl]
      rw [if_pos rfl] at h1
      refine ⟨fun σ' H' => ∃ io S env, RS X.K io S H' ∧ RE X.K io H' env σ' ∧ whileD gc f m env S = some (o, env', S') ∧ EndS X.K X.mg W io H' o env' S' E, fun σ' H' q => ⟨m, Nat.lt_succ_self _, q⟩, ?_⟩
      cases hb : f env S1 with
      | none => rw [hb] at h1; cases h1
      | some p =>
        obtain ⟨o2, env2, S2⟩ := p
        rw [hb] at h1
        cases o2 with
        | nx => exact ⟨io1, S1, env, _, _, _, rs1, re1, hb, fun io2 H2 σ2 e2 rs2 re2 => ⟨io2, S2, env2, rs2, re2, h1, hE1.mono e2⟩⟩
        | ct => exact ⟨io1, S1, env, _, _, _, rs1, re1, hb, fun io2 H2 σ2 e2 rs2 re2 => ⟨io2, S2, env2, rs2, re2, h1, hE1.mono e2⟩⟩
        | bk => cases h1; exact ⟨io1, S1, env, _, _, _, rs1, re1, hb, hE1⟩
        | rt d => cases h1; exact ⟨io1, S1, env, _, _, _, rs1, re1, hb, hE1⟩
        | ex x => cases h1; exact ⟨io1, S1, env, _, _, _, rs1, re1, hb, hE1⟩
theorem ds_for {tg iter : Expr} {body : List Stmt} {fw : Ev → Sto → Ans Wk} {t : Tg} (hp : PassesOwn (model X.prog X.w) X.A X.env X.xe) (hc : X.calm = true) (hi : DI X W tg iter fw) (hg : PG X tg (tTg X.K t)) (hb : DSs X W body f) (hs : ∀ x, foldedSetIterable iter X.env x = pure x := by intro _; rfl) : DS X W (.For tg iter body [] pos) (sFor fw t f) := ps_weak (ps_for hp hc hi hg hb hs) fun E σ H ⟨io, S, env, o, env', S', rs, re, hf, hE⟩ => by
  refine tG_bindS rs re hf hE fun w S1 io1 H1 J _ e1 rs1 re1 ok h1 hE1 => ?_
  refine ⟨fun i m σ H => m = w.items.length - i ∧ ∃ io S env, Ext X.K io1 H1 io H ∧ RS X.K io S H ∧ RE X.K io H env σ ∧ forD w.ok t f (w.items.drop i) env S = some (o, env', S') ∧ EndS X.K X.mg W io H o env' S' E, ⟨_, rfl, io1, S1, env, Ext.refl, rs1, re1, by simpa using h1, hE1⟩, ?_⟩
  rintro i m σ H ⟨rfl, io, S, env, ex, rs, re, hf, hE⟩
  by_cases hi : i < w.items.length
  · rw [List.drop_eq_getElem_cons hi] at hf
    unfold forD at hf
    split at hf
    · rename_i hok
      obtain ⟨_, hgo⟩ := ok i io S H ex rs hok
      obtain ⟨hgo, hyl⟩ := hgo _ (List.getElem?_eq_getElem hi)
      refine .inr ⟨hgo, fun σ' H' => ∃ io S env, Ext X.K io1 H1 io H' ∧ RS X.K io S H' ∧ RE X.K io H' env σ' ∧ forD w.ok t f (w.items.drop (i + 1)) env S = some (o, env', S') ∧ EndS X.K X.mg W io H' o env' S' E, fun σ' H' q => ⟨_, by omega, rfl, q⟩, fun x H' hy => ?_⟩
      obtain ⟨io', ex', rs', rv⟩ := hyl x H' hy
      split at hf
      · cases hf
      · rename_i env1 hput
        refine ⟨io', env, _, env1, re.mono ex', rv, hput, fun σ2 re2 _ _ => ?_⟩
        cases hbo : f env1 S with
        | none => rw [hbo] at hf; cases hf
        | some p =>
          obtain ⟨o2, env2, S2⟩ := p
          rw [hbo] at hf
          cases o2 with
          | nx => exact ⟨io', S, env1, _, _, _, rs', re2, hbo, fun io2 H2 σ2 e2 rs2 re2 => ⟨io2, S2, env2, (ex.trans ex').trans e2, rs2, re2, hf, (hE.mono ex').mono e2⟩⟩
          | ct => exact ⟨io', S, env1, _, _, _, rs', re2, hbo, fun io2 H2 σ2 e2 rs2 re2 => ⟨io2, S2, env2, (ex.trans ex').trans e2, rs2, re2, hf, (hE.mono ex').mono e2⟩⟩
          | bk => cases hf; exact ⟨io', S, env1, _, _, _, rs', re2, hbo, hE.mono ex'⟩
          | rt d => cases hf; exact ⟨io', S, env1, _, _, _, rs', re2, hbo, hE.mono ex'⟩
          | ex x => cases hf; exact ⟨io', S, env1, _, _, _, rs', re2, hbo, hE.mono ex'⟩
    · cases hf
  · rw [List.drop_eq_nil_of_le (by omega)] at hf
    unfold forD at hf
    split at hf
    · rename_i hok
      cases hf
      exact .inl ⟨(ok i io _ H ex rs hok).1 (by omega), hE io H σ Ext.refl rs re⟩
    · cases hf
end
end DL
namespace DL
open PySem PySem.Spec PyProof.Rows L2 RT RZ

/-! ### what is walked -/
def wSeq (fe : Ev → Sto → Ans D) : Ev → Sto → Ans Wk := fun env S => bindR (fe env S) fun d S1 => match seqOf d S1 with
  | some ds => some (.ok ⟨fun S => seqOf d S = some ds, ds⟩, S1)
  | none => none
def rangeL (lo : Int) (n : Nat) : List D := (List.range n).map fun (k : Nat) => D.int (lo + k)
/-- an end that a range may have -/
def RgB (j : Int) : Prop := -(2 ^ 62) ≤ j ∧ j < 2 ^ 62
noncomputable instance (j : Int) : Decidable (RgB j) := Classical.propDecidable _
theorem RgB.of {j : Int} (h : j.natAbs ≤ 1000000000000) : RgB j := ⟨by omega, by omega⟩
noncomputable def wRange (fs : Ev → Sto → Ans (List D)) : Ev → Sto → Ans Wk := fun env S => bindR (fs env S) fun ds S1 => match ds with
  | [.int j] => if RgB j then some (.ok ⟨fun _ => True, rangeL 0 j.toNat⟩, S1) else none
  | [.int i, .int j] => if RgB i ∧ RgB j then some (.ok ⟨fun _ => True, rangeL i (j - i).toNat⟩, S1) else none
  | _ => none
def wRev (fe : Ev → Sto → Ans D) : Ev → Sto → Ans Wk := fun env S => bindR (fe env S) fun d S1 => match seqOf d S1 with
  | some ds => some (.ok ⟨fun S => seqOf d S = some ds, ds.reverse⟩, S1)
  | none => none
def wStr (fe : Ev → Sto → Ans D) : Ev → Sto → Ans Wk := fun env S => bindR (fe env S) fun d S1 => match d with
  | .str x => some (.ok ⟨fun _ => True, x.cps.toList.map fun c => D.str ⟨#[c]⟩⟩, S1)
  | _ => none
def zipD (xs ys : List D) : List D := (xs.zip ys).map fun p => D.tup [p.1, p.2]
def isTup : D → Bool
  | .tup _ => true
  | _ => false
def wZip (fs : Ev → Sto → Ans (List D)) : Ev → Sto → Ans Wk := fun env S => bindR (fs env S) fun ds S1 => match ds with
  | [a, b] => match seqOf a S1, seqOf b S1 with
    | some xs, some ys => if isTup a = isTup b then some (.ok ⟨fun S => seqOf a S = some xs ∧ seqOf b S = some ys, zipD xs ys⟩, S1) else none
    | _, _ => none
  | _ => none
def enumD (xs : List D) : List D := (xs.zipIdx).map fun p => D.tup [.int p.2, p.1]
def wEnum (fs : Ev → Sto → Ans (List D)) : Ev → Sto → Ans Wk := fun env S => bindR (fs env S) fun ds S1 => match ds with
  | [.ref n] => match seqOf (.ref n) S1 with
    | some xs => some (.ok ⟨fun S => seqOf (.ref n) S = some xs, enumD xs⟩, S1)
    | _ => none
  | _ => none
section
variable {K : PySem.W.Frag} {io : List Addr} {S : Sto} {H : Hp}
theorem seq_ref {n : Nat} {ds : List D} (h : seqOf (.ref n) S = some ds) : S[n]? = some (.lst ds) ∨ S[n]? = some (.rol ds) := by
  simp only [seqOf] at h
  split at h
  · cases h
    exact .inl (by assumption)
  · cases h
    exact .inr (by assumption)
  · cases h
theorem ItOk.list {a : Addr} {n : Nat} {ds : List D} (ha : io[n]? = some a) : ItOk K io H ⟨fun S => seqOf (.ref n) S = some ds, ds⟩ (Itl K a) := fun i io' S' H' ex rs ok => by
  obtain ⟨b, vs, e1, e2, e3, e4⟩ := rs.seq (seq_ref ok) (show RV K io' H' (.ref n) (.ref a) by unfold RV; exact ⟨a, ex.get ha, rfl⟩)
  cases e1
  refine ⟨fun hi => ⟨vs, e3, by rw [← e4.length]; exact hi⟩, fun x hx => ?_⟩
  obtain ⟨v, h1, h2⟩ := e4.get hx
  refine ⟨⟨vs, v, e3, h1⟩, fun w H2 hy => ?_⟩
  obtain ⟨rfl, hy⟩ := hy
  have := hy vs e3
  rw [h1] at this
  cases this
  exact ⟨io', Ext.refl, rs, h2⟩
theorem ItOk.tup {a : Addr} {vs : List V} {ds : List D} (ok : Sto → Prop) (ha : SqT K H a vs) (hd : RVs K io H ds vs) : ItOk K io H ⟨ok, ds⟩ (Itt K a) := fun i io' S' H' ex rs _ => by
  have e3 := ex.tup a vs ha
  have e4 := RVs.mono ex ds vs hd
  refine ⟨fun hi => ⟨vs, e3, by rw [← e4.length]; exact hi⟩, fun x hx => ?_⟩
  obtain ⟨v, h1, h2⟩ := e4.get hx
  refine ⟨⟨vs, v, e3, h1⟩, fun w H2 hy => ?_⟩
  obtain ⟨rfl, hy⟩ := hy
  have := hy vs e3
  rw [h1] at this
  cases this
  exact ⟨io', Ext.refl, rs, h2⟩
theorem rangeL_get {lo : Int} {n i : Nat} {x : D} (h : (rangeL lo n)[i]? = some x) : i < n ∧ x = .int (lo + i) := by
  unfold rangeL at h
  rw [List.getElem?_map] at h
  by_cases hi : i < n
  · rw [List.getElem?_range hi] at h
    cases h
    exact ⟨hi, rfl⟩
  · rw [List.getElem?_eq_none (by simpa using hi)] at h
    cases h
theorem rangeL_length {lo : Int} {n : Nat} : (rangeL lo n).length = n := by simp [rangeL]
theorem ItOk.range {lo : Int} {n : Nat} (ok : Sto → Prop) : ItOk K io H ⟨ok, rangeL lo n⟩ (Itr lo n) := fun i io' S' H' ex rs _ => by
  refine ⟨fun hi => by have h : n ≤ i := by simpa [rangeL] using hi
                       exact h, fun x hx => ?_⟩
  obtain ⟨hi, rfl⟩ := rangeL_get hx
  refine ⟨hi, fun w H2 hy => ?_⟩
  obtain ⟨rfl, rfl⟩ := hy
  exact ⟨io', Ext.refl, rs, by simp [RV]⟩
theorem ItOk.rev {a : Addr} {n : Nat} {ds : List D} (ha : io[n]? = some a) : ItOk K io H ⟨fun S => seqOf (.ref n) S = some ds, ds.reverse⟩ (Itv K a ds.length) := fun i io' S' H' ex rs ok => by
  have stp : (ds.reverse.length ≤ i → (Itv K a ds.length).stop i H') := fun hi => by
    have h : ds.length ≤ i := by simpa using hi
    exact h
  obtain ⟨b, vs, e1, e2, e3, e4⟩ := rs.seq (seq_ref ok) (show RV K io' H' (.ref n) (.ref a) by unfold RV; exact ⟨a, ex.get ha, rfl⟩)
  cases e1
  refine ⟨stp, fun x hx => ?_⟩
  have hi : i < ds.length := by simpa using (List.getElem?_eq_some_iff.mp hx).1
  have hx' : ds[ds.length - 1 - i]? = some x := by
    have hx0 : ds.reverse[i]? = some x := hx
    rw [List.getElem?_reverse hi] at hx0
    exact hx0
  obtain ⟨v, h1, h2⟩ := e4.get hx'
  refine ⟨⟨hi, vs, v, e3, h1⟩, fun w H2 hy => ?_⟩
  obtain ⟨rfl, hy⟩ := hy
  have := hy vs e3
  rw [h1] at this
  cases this
  exact ⟨io', Ext.refl, rs, h2⟩
theorem ItOk.revT {a : Addr} {vs : List V} {ds : List D} (ok : Sto → Prop) (ha : SqT K H a vs) (hd : RVs K io H ds vs) : ItOk K io H ⟨ok, ds.reverse⟩ (ItvT K a ds.length) := fun i io' S' H' ex rs _ => by
  have stp : (ds.reverse.length ≤ i → (ItvT K a ds.length).stop i H') := fun hi => by
    have h : ds.length ≤ i := by simpa using hi
    exact h
  have e3 := ex.tup a vs ha
  have e4 := RVs.mono ex ds vs hd
  refine ⟨stp, fun x hx => ?_⟩
  have hi : i < ds.length := by simpa using (List.getElem?_eq_some_iff.mp hx).1
  have hx' : ds[ds.length - 1 - i]? = some x := by
    have hx0 : ds.reverse[i]? = some x := hx
    rw [List.getElem?_reverse hi] at hx0
    exact hx0
  obtain ⟨v, h1, h2⟩ := e4.get hx'
  refine ⟨⟨hi, vs, v, e3, h1⟩, fun w H2 hy => ?_⟩
  obtain ⟨rfl, hy⟩ := hy
  have := hy vs e3
  rw [h1] at this
  cases this
  exact ⟨io', Ext.refl, rs, h2⟩
theorem ItOk.str {x : Str} (ok : Sto → Prop) : ItOk K io H ⟨ok, x.cps.toList.map fun c => D.str ⟨#[c]⟩⟩ (Its x) := fun i io' S' H' ex rs _ => by
  have stp : ((x.cps.toList.map fun c => D.str ⟨#[c]⟩).length ≤ i → (Its x).stop i H') := fun hi => by
    have h : x.cps.size ≤ i := by simpa using hi
    exact h
  refine ⟨stp, fun y hy => ?_⟩
  have hy0 : (x.cps.toList.map fun c => D.str ⟨#[c]⟩)[i]? = some y := hy
  rw [List.getElem?_map] at hy0
  cases hc : x.cps.toList[i]? with
  | none => rw [hc] at hy0; cases hy0
  | some c =>
    rw [hc] at hy0
    cases hy0
    have hi : i < x.cps.size := by simpa using (List.getElem?_eq_some_iff.mp hc).1
    refine ⟨hi, fun w H2 hy => ?_⟩
    obtain ⟨rfl, c', h1, rfl⟩ := hy
    have : c' = c := by
      have h2 : x.cps[i]? = some c := by simpa using hc
      rw [h1] at h2
      exact Option.some.inj h2
    subst this
    exact ⟨io', Ext.refl, rs, by simp [RV]⟩
theorem tup2 {io' : List Addr} {H' : Hp} {T : Addr} {a b : D} {x y : V} (hT : H' T = none) (r1 : RV K io' H' a x) (r2 : RV K io' H' b y) : RV K io' (upd H' T (.tup [x, y])) (.tup [a, b]) (.ref T) := by
  unfold RV
  exact ⟨T, _, rfl, SqT.of upd_same, RVs.cons (RV.mono (Ext.fresh hT) _ _ r1) (RVs.one (RV.mono (Ext.fresh hT) _ _ r2))⟩
theorem ItOk.enum {a : Addr} {n : Nat} {ds : List D} (ha : io[n]? = some a) : ItOk K io H ⟨fun S => seqOf (.ref n) S = some ds, enumD ds⟩ (Ite K a) := fun i io' S' H' ex rs ok => by
  obtain ⟨b, vs, e1, e2, e3, e4⟩ := rs.seq (seq_ref ok) (show RV K io' H' (.ref n) (.ref a) by unfold RV; exact ⟨a, ex.get ha, rfl⟩)
  cases e1
  refine ⟨fun hi => ⟨vs, e3, by rw [← e4.length]; simpa [enumD] using hi⟩, fun x hx => ?_⟩
  have hx0 : (enumD ds)[i]? = some x := hx
  unfold enumD at hx0
  rw [List.getElem?_map, List.getElem?_zipIdx] at hx0
  cases hd : ds[i]? with
  | none => rw [hd] at hx0; cases hx0
  | some d =>
    rw [hd] at hx0
    cases hx0
    obtain ⟨v, h1, h2⟩ := e4.get hd
    refine ⟨⟨vs, v, e3, h1⟩, fun w H2 hy => ?_⟩
    obtain ⟨T, x, rfl, hT, rfl, hy⟩ := hy
    have := hy vs e3
    rw [h1] at this
    cases this
    refine ⟨io', Ext.fresh hT, rs.tupNew hT, ?_⟩
    have := tup2 (K := K) (a := .int ((i : Nat) : Int)) (x := .int ((i : Nat) : Int)) hT (by simp [RV]) h2
    simpa using this
theorem zip_get {xs ys : List D} {i : Nat} {z : D} (h : (zipD xs ys)[i]? = some z) : ∃ x y, xs[i]? = some x ∧ ys[i]? = some y ∧ z = .tup [x, y] := by
  unfold zipD at h
  rw [List.getElem?_map] at h
  cases hz : (xs.zip ys)[i]? with
  | none => rw [hz] at h; cases h
  | some p =>
    rw [hz] at h
    cases h
    obtain ⟨h1, h2⟩ := List.getElem?_zip_eq_some.mp hz
    exact ⟨p.1, p.2, h1, h2, rfl⟩
theorem ItOk.zip {a b : Addr} {n m : Nat} {xs ys : List D} (ha : io[n]? = some a) (hb : io[m]? = some b) : ItOk K io H ⟨fun S => seqOf (.ref n) S = some xs ∧ seqOf (.ref m) S = some ys, zipD xs ys⟩ (Itz K a b) := fun i io' S' H' ex rs ok => by
  obtain ⟨_, vs, e1, e2, e3, e4⟩ := rs.seq (seq_ref ok.1) (show RV K io' H' (.ref n) (.ref a) by unfold RV; exact ⟨a, ex.get ha, rfl⟩)
  cases e1
  obtain ⟨_, ws, f1, f2, f3, f4⟩ := rs.seq (seq_ref ok.2) (show RV K io' H' (.ref m) (.ref b) by unfold RV; exact ⟨b, ex.get hb, rfl⟩)
  cases f1
  refine ⟨fun hi => ⟨vs, ws, e3, f3, by rw [← e4.length, ← f4.length]; simp [zipD] at hi; omega⟩, fun z hz => ?_⟩
  obtain ⟨x, y, h1, h2, rfl⟩ := zip_get hz
  obtain ⟨v, p1, p2⟩ := e4.get h1
  obtain ⟨w, q1, q2⟩ := f4.get h2
  refine ⟨⟨vs, ws, v, w, e3, f3, p1, q1⟩, fun u H2 hy => ?_⟩
  obtain ⟨T, x', y', rfl, hT, rfl, k1, k2⟩ := hy
  have := k1 vs e3
  rw [p1] at this
  cases this
  have := k2 ws f3
  rw [q1] at this
  cases this
  exact ⟨io', Ext.fresh hT, rs.tupNew hT, tup2 hT p2 q2⟩
theorem ItOk.zipT {a b : Addr} {vs ws : List V} {xs ys : List D} (ok : Sto → Prop) (ha : SqT K H a vs) (hd : RVs K io H xs vs) (hb : SqT K H b ws) (hd2 : RVs K io H ys ws) : ItOk K io H ⟨ok, zipD xs ys⟩ (ItzT K a b) := fun i io' S' H' ex rs _ => by
  have e3 := ex.tup a vs ha
  have e4 := RVs.mono ex _ vs hd
  have f3 := ex.tup b ws hb
  have f4 := RVs.mono ex _ ws hd2
  refine ⟨fun hi => ⟨vs, ws, e3, f3, by rw [← e4.length, ← f4.length]; simp [zipD] at hi; omega⟩, fun z hz => ?_⟩
  obtain ⟨x, y, h1, h2, rfl⟩ := zip_get hz
  obtain ⟨v, p1, p2⟩ := e4.get h1
  obtain ⟨w, q1, q2⟩ := f4.get h2
  refine ⟨⟨vs, ws, v, w, e3, f3, p1, q1⟩, fun u H2 hy => ?_⟩
  obtain ⟨T, x', y', rfl, hT, rfl, k1, k2⟩ := hy
  have := k1 vs e3
  rw [p1] at this
  cases this
  have := k2 ws f3
  rw [q1] at this
  cases this
  exact ⟨io', Ext.fresh hT, rs.tupNew hT, tup2 hT p2 q2⟩
end
section
variable {X : Cx} {W : XK} {e e2 tg : Expr} {es : List Expr} {fe : Ev → Sto → Ans D} {fs : Ev → Sto → Ans (List D)} {pos p tpos : Pos} {elts : List Expr} {kk : Nat}
/-- a list or a tuple -/
theorem di_seq (he : DE X W e fe) : DI X W tg e (wSeq fe) := pi_weak (pi_or (pi_list he) (pi_tup he)) fun σ H R ⟨io, S, env, r, S', rs, re, hf, hE⟩ => by
  unfold wSeq at hf
  cases hd : fe env S with
  | none => rw [hd] at hf; cases hf
  | some q =>
    obtain ⟨ra, S1⟩ := q
    cases ra with
    | ex x =>
      rw [hd] at hf
      cases hf
      exact .inl ⟨io, S, env, _, _, rs, re, hd, hE⟩
    | ok d =>
      by_cases ht : isTup d = true
      · refine .inr (tG_bind2 rs re hf hE fun d' S1' io1 H1 v hd' e1 rs1 re1 rv1 h1 hE1 => ?_)
        rw [hd] at hd'
        cases hd'
        cases d <;> first | cases ht | skip
        rename_i ds
        unfold RV at rv1
        obtain ⟨a, vs, rfl, e2, e3⟩ := rv1
        cases h1
        exact ⟨a, rfl, ⟨vs, e2⟩, hE1.now rs1 (ItOk.tup _ e2 e3)⟩
      · refine .inl (tG_bind2 rs re hf hE fun d' S1' io1 H1 v hd' e1 rs1 re1 rv1 h1 hE1 => ?_)
        rw [hd] at hd'
        cases hd'
        cases hs : seqOf d S1 with
        | none => rw [hs] at h1; cases h1
        | some ds =>
          rw [hs] at h1
          cases h1
          cases d with
          | ref n =>
            obtain ⟨a, vs, rfl, e2, e3, e4⟩ := rs1.seq (seq_ref hs) rv1
            exact ⟨a, rfl, ⟨vs, e3⟩, hE1.now rs1 (ItOk.list e2)⟩
          | tup _ => exact absurd rfl ht
          | non => cases hs
          | bl _ => cases hs
          | int _ => cases hs
          | str _ => cases hs
theorem RVs.int1 {K : PySem.W.Frag} {io : List Addr} {H : Hp} {j : Int} {vs : List V} (h : RVs K io H [.int j] vs) : vs = [.int j] := by
  simp only [RVs, RV] at h
  obtain ⟨v, r, rfl, rfl, rfl⟩ := h
  rfl
theorem RVs.int2 {K : PySem.W.Frag} {io : List Addr} {H : Hp} {i j : Int} {vs : List V} (h : RVs K io H [.int i, .int j] vs) : vs = [.int i, .int j] := by
  simp only [RVs, RV] at h
  obtain ⟨v, r, rfl, rfl, w, r2, rfl, rfl, rfl⟩ := h
  rfl
theorem one_of {ds : List D} (h : ds.length = 1) : ∃ d, ds = [d] := by
  match ds, h with
  | [d], _ => exact ⟨d, rfl⟩
theorem two_of {ds : List D} (h : ds.length = 2) : ∃ d e, ds = [d, e] := by
  match ds, h with
  | [d, e], _ => exact ⟨d, e, rfl⟩
theorem di_range1 (hg : Gl X "range") (hm : X.mg "range" = none) (ha : DA X W [e] fs)
    (hf1 : ∀ env S ds S', fs env S = some (.ok ds, S') → ds.length = 1) (hs : starEach [e] X.env = [(false, eval e X.env)] := by rfl) : DI X W tg (.Call (.Name "range" p) [e] [] pos) (wRange fs) :=
  pi_weak (pi_range1 hg hm ha hs) fun σ H R ⟨io, S, env, r, S', rs, re, hf, hE⟩ => tG_bind2 rs re hf hE fun ds S1 io1 H1 v hd e1 rs1 re1 rv1 h1 hE1 => by
    obtain ⟨d, rfl⟩ := one_of (hf1 _ _ _ _ hd)
    cases d with
    | int j =>
      simp only at h1
      split at h1
      · rename_i hb
        cases h1
        exact ⟨j, RVs.int1 rv1, hb.1, hb.2, hE1.now rs1 (ItOk.range _)⟩
      · cases h1
    | _ => cases h1
theorem di_range2 (hg : Gl X "range") (hm : X.mg "range" = none) (ha : DA X W [e, e2] fs) (hf1 : ∀ env S ds S', fs env S = some (.ok ds, S') → ds.length = 2) (hs : starEach [e, e2] X.env = [(false, eval e X.env), (false, eval e2 X.env)] := by rfl) (hs2 : starEach [e2] X.env = [(false, eval e2 X.env)] := by rfl) : DI X W tg (.Call (.Name "range" p) [e, e2] [] pos) (wRange fs) :=
  pi_weak (pi_range2 hg hm ha hs hs2) fun σ H R ⟨io, S, env, r, S', rs, re, hf, hE⟩ => tG_bind2 rs re hf hE fun ds S1 io1 H1 v hd e1 rs1 re1 rv1 h1 hE1 => by
    obtain ⟨d, d', rfl⟩ := two_of (hf1 _ _ _ _ hd)
    cases d with
    | int i =>
      cases d' with
      | int j =>
        simp only at h1
        split at h1
        · rename_i hb
          cases h1
          exact ⟨i, j, RVs.int2 rv1, ⟨hb.1.1, hb.1.2, hb.2.1, hb.2.2⟩, hE1.now rs1 (ItOk.range _)⟩
        · cases h1
      | _ => cases h1
    | _ => cases h1
theorem di_rev (hg : Gl X "reversed") (hm : X.mg "reversed" = none) (he : DE X W e fe) (hs : starEach [e] X.env = (false, eval e X.env) :: starEach [] X.env := by rfl) : DI X W tg (.Call (.Name "reversed" p) [e] [] pos) (wRev fe) :=
  pi_weak (pi_revA hg hm he hs) fun σ H R ⟨io, S, env, r, S', rs, re, hf, hE⟩ => tG_bind rs re hf hE fun d S1 io1 H1 v e1 rs1 re1 rv1 h1 hE1 => by
    cases hs : seqOf d S1 with
    | none => rw [hs] at h1; cases h1
    | some ds =>
      rw [hs] at h1
      cases h1
      cases d with
      | ref n =>
        obtain ⟨a, vs, rfl, e2, e3, e4⟩ := rs1.seq (seq_ref hs) rv1
        exact ⟨a, vs, rfl, .inl ⟨e3, by rw [← e4.length]; exact hE1.now rs1 (ItOk.rev e2)⟩⟩
      | tup es =>
        cases hs
        unfold RV at rv1
        obtain ⟨a, vs, rfl, e2, e3⟩ := rv1
        exact ⟨a, vs, rfl, .inr ⟨e2, by rw [← e3.length]; exact hE1.now rs1 (ItOk.revT _ e2 e3)⟩⟩
      | non => cases hs
      | bl _ => cases hs
      | int _ => cases hs
      | str _ => cases hs
theorem di_str (he : DE X W e fe) : DI X W tg e (wStr fe) :=
  pi_weak (pi_str he) fun σ H R ⟨io, S, env, r, S', rs, re, hf, hE⟩ => tG_bind rs re hf hE fun d S1 io1 H1 v e1 rs1 re1 rv1 h1 hE1 => by
    cases d <;> first | cases h1 | skip
    unfold RV at rv1
    subst rv1
    exact ⟨_, rfl, hE1.now rs1 (ItOk.str _)⟩
theorem di_enum (hg : Gl X "enumerate") (hm : X.mg "enumerate" = none) (ha : DA X W [e] fs) (hf1 : ∀ env S ds S', fs env S = some (.ok ds, S') → ds.length = 1) (hs : starEach [e] X.env = [(false, eval e X.env)] := by rfl) : DI X W (.Tuple elts kk tpos) (.Call (.Name "enumerate" p) [e] [] pos) (wEnum fs) :=
  pi_weak (pi_enum hg hm ha hs) fun σ H R ⟨io, S, env, r, S', rs, re, hf, hE⟩ => tG_bind2 rs re hf hE fun ds S1 io1 H1 v hd e1 rs1 re1 rv1 h1 hE1 => by
    obtain ⟨d, rfl⟩ := one_of (hf1 _ _ _ _ hd)
    cases d with
    | ref n =>
      cases hs : seqOf (.ref n) S1 with
      | none => simp only [hs] at h1; cases h1
      | some xs =>
        simp only [hs] at h1
        cases h1
        unfold RVs at rv1
        obtain ⟨w, r, rfl, rv2, rv3⟩ := rv1
        unfold RVs at rv3
        subst rv3
        obtain ⟨a, vs, rfl, e2, e3, e4⟩ := rs1.seq (seq_ref hs) rv2
        exact ⟨a, vs, rfl, e3, hE1.now rs1 (ItOk.enum e2)⟩
    | _ => cases h1
theorem di_zip (hg : Gl X "zip") (hm : X.mg "zip" = none) (ha : DA X W [e, e2] fs) (hf1 : ∀ env S ds S', fs env S = some (.ok ds, S') → ds.length = 2) (hs : starEach [e, e2] X.env = (false, eval e X.env) :: starEach [e2] X.env := by rfl) (hpl : (backTo pos (starEach [e2] X.env)).any (·.1) = false := by rfl) : DI X W (.Tuple elts kk tpos) (.Call (.Name "zip" p) [e, e2] [] pos) (wZip fs) :=
  pi_weak (pi_zipA hg hm ha hs hpl) fun σ H R ⟨io, S, env, r, S', rs, re, hf, hE⟩ => tG_bind2 rs re hf hE fun ds S1 io1 H1 v hd e1 rs1 re1 rv1 h1 hE1 => by
    obtain ⟨x, y, rfl⟩ := two_of (hf1 _ _ _ _ hd)
    simp only at h1
    split at h1
    · rename_i xs ys hx hy
      split at h1
      · rename_i ht
        cases h1
        unfold RVs at rv1
        obtain ⟨w, r, rfl, rv2, rv3⟩ := rv1
        unfold RVs at rv3
        obtain ⟨w2, r2, rfl, rv4, rv5⟩ := rv3
        unfold RVs at rv5
        subst rv5
        cases x with
        | ref n =>
          cases y with
          | ref m =>
            obtain ⟨a, vs, rfl, e2, e3, e4⟩ := rs1.seq (seq_ref hx) rv2
            obtain ⟨b, ws, rfl, f2, f3, f4⟩ := rs1.seq (seq_ref hy) rv4
            exact ⟨a, b, vs, ws, rfl, .inl ⟨e3, f3, hE1.now rs1 (ItOk.zip e2 f2)⟩⟩
          | tup _ => cases ht
          | _ => cases hy
        | tup es =>
          cases y with
          | tup _ =>
            cases hx
            cases hy
            unfold RV at rv2 rv4
            obtain ⟨a, vs, rfl, e2, e3⟩ := rv2
            obtain ⟨b, ws, rfl, f2, f3⟩ := rv4
            exact ⟨a, b, vs, ws, rfl, .inr ⟨e2, f2, hE1.now rs1 (ItOk.zipT _ e2 e3 f2 f3)⟩⟩
          | ref _ => cases ht
          | _ => cases hy
        | _ => cases hx
      · cases h1
    · cases h1
theorem len_nil : ∀ env S ds S', dNil env S = some (.ok ds, S') → ds.length = 0 := fun _ _ _ _ h => by
  cases h
  rfl
theorem bindR_ok {α β : Type} {x : Ans α} {k : α → Sto → Ans β} {b : β} {S' : Sto} (h : bindR x k = some (.ok b, S')) : ∃ a S, x = some (.ok a, S) ∧ k a S = some (.ok b, S') := by
  unfold bindR at h
  split at h
  · cases h
  · cases h
  · exact ⟨_, _, rfl, h⟩
theorem len_cons {n : Nat} (h : ∀ env S ds S', fs env S = some (.ok ds, S') → ds.length = n) : ∀ env S ds S', dCons fe fs env S = some (.ok ds, S') → ds.length = n + 1 := fun env S ds S' q => by
  obtain ⟨a, S1, _, q⟩ := bindR_ok q
  obtain ⟨b, S2, q1, q⟩ := bindR_ok q
  cases q
  simp [h _ _ _ _ q1]
end
end DL
namespace DL
open PySem PySem.Spec PyProof.Rows L2 RT RZ

/-! ### list comprehensions -/
def wipeE (env : Ev) : List Nat → Ev
  | [] => env
  | v :: vs => (wipeE env vs).set v none
theorem wipeE_len (env : Ev) : ∀ vs : List Nat, (wipeE env vs).length = env.length
  | [] => rfl
  | v :: vs => by
    unfold wipeE
    rw [List.length_set, wipeE_len env vs]
theorem RE.wipe {K : PySem.W.Frag} {io : List Addr} {H : Hp} {env : Ev} {σ : L2.St} (h : RE K io H env σ) : ∀ vs : List Nat, RE K io H (wipeE env vs) (wipe σ vs)
  | [] => h
  | v :: vs => by
    have q := RE.wipe h vs
    refine ⟨by simp [wipeE, L2.wipe, q.len], fun i d e => ?_⟩
    unfold wipeE at e
    unfold L2.wipe
    by_cases hi : v = i
    · subst hi
      by_cases hv : v < (wipeE env vs).length
      · rw [List.getElem?_set_self hv] at e
        cases e
      · rw [List.getElem?_eq_none (by simpa using hv)] at e
        cases e
    · rw [List.getElem?_set_ne hi] at e ⊢
      exact q.get i d e
theorem wipe_at (σ : L2.St) (i : Nat) : ∀ vs : List Nat, (wipe σ vs)[i]? = if i ∈ vs then (if i < σ.length then some none else none) else σ[i]?
  | [] => by simp [L2.wipe]
  | v :: vs => by
    unfold L2.wipe
    by_cases hv : v = i
    · subst hv
      rw [if_pos (List.mem_cons_self)]
      by_cases hl : v < σ.length
      · rw [List.getElem?_set_self (by rw [wipe_length]; exact hl), if_pos hl]
      · rw [List.getElem?_eq_none (by rw [List.length_set, wipe_length]; omega), if_neg hl]
    · rw [List.getElem?_set_ne hv, wipe_at σ i vs]
      have : i ∈ v :: vs ↔ i ∈ vs := by
        simp only [List.mem_cons]
        exact ⟨fun h => h.elim (fun z => absurd z.symm hv) id, .inr⟩
      simp only [this]
theorem wipe_same {σ σ' : L2.St} {vs : List Nat} (f : ∀ j, j ∉ vs → σ'[j]? = (wipe σ vs)[j]?) (l : σ'.length = (wipe σ vs).length) : wipe σ' vs = wipe σ vs := by
  apply List.ext_getElem?
  intro i
  rw [wipe_at σ' i vs]
  by_cases hi : i ∈ vs
  · rw [if_pos hi, wipe_at σ i vs, if_pos hi, l, wipe_length]
  · rw [if_neg hi, f i hi]
open Classical in
noncomputable def lcD (ok : Sto → Prop) (t : Tg) (gt : Ev → Sto → Ans Bool) (fe : Ev → Sto → Ans D) (env : Ev) (n : Nat) : List D → Sto → Option Sto
  | [], S => if ok S then some S else none
  | x :: xs, S => if ok S then match t.put x env with
      | none => none
      | some env1 => match gt env1 S with
        | some (.ok true, S1) => match fe env1 S1 with
          | some (.ok y, S2) => match S2[n]? with
            | some (.lst acc) => if acc.length < sizeLine then lcD ok t gt fe env n xs (S2.set n (.lst (acc ++ [y]))) else none
            | _ => none
          | _ => none
        | some (.ok false, S1) => lcD ok t gt fe env n xs S1
        | _ => none
    else none
noncomputable def dLc (fw : Ev → Sto → Ans Wk) (t : Tg) (gt : Ev → Sto → Ans Bool) (fe : Ev → Sto → Ans D) (vs : List Nat) : Ev → Sto → Ans D := fun env S => bindR (fw env S) fun w S1 =>
  match lcD w.ok t gt fe (wipeE env vs) S1.length w.items (S1 ++ [.lst []]) with
  | some S2 => some (.ok (.ref S1.length), S2)
  | none => none
def dTrue : Ev → Sto → Ans Bool := fun _ S => some (.ok true, S)
section
variable {X : Cx} {W : XK}
theorem pts_weak {ifs : List Expr} {t t' : TT} (h : PTs X ifs t) (w : ∀ σ H Q, t' σ H Q → t σ H Q) : PTs X ifs t' := ⟨fun pins s σ H Q I q => h.run pins s σ H Q I (w σ H Q q)⟩
theorem dts_nil : PTs X [] (tMT X.K X.mg W dTrue) := pts_weak pts_nil fun σ H Q ⟨io, S, env, r, S', rs, re, hf, hE⟩ => by
  cases hf
  exact hE.now rs rfl
theorem dts_one {c : Expr} {gt : Ev → Sto → Ans Bool} (h : DT X W c gt) : PTs X [c] (tMT X.K X.mg W gt) := pts_one h
end
theorem lc_read {K : PySem.W.Frag} {mg : Str → Option Value} {W : XK} {fw : Ev → Sto → Ans Wk} {t : Tg} {gt : Ev → Sto → Ans Bool} {fe : Ev → Sto → Ans D} {vs : List Nat} (hsub : ∀ j ∈ t.slots, j ∈ vs) {σ : L2.St} {H : Hp} {Q : VK} (h : tM K mg W (dLc fw t gt fe vs) σ H Q) :
    tLc (tIM K mg W fw) (tTg K t) (tMT K mg E0 gt) (tM K mg E0 fe) vs σ H Q := by
  obtain ⟨io, S, env, r, S', rs, re, hf, hE⟩ := h
  refine tG_bind rs re hf hE fun w S1 io1 H1 J e1 rs1 re1 ok h1 hE1 => fun D hD => ?_
  cases hl : lcD w.ok t gt fe (wipeE env vs) S1.length w.items (S1 ++ [.lst []]) with
  | none => rw [hl] at h1; cases h1
  | some S2 =>
    rw [hl] at h1
    cases h1
    have rs0 := rs1.lstNew hD RVs.nil
    have ex0 : Ext K io1 H1 (io1 ++ [D]) (upd H1 D (.lst [])) := Ext.new hD
    have at0 : (io1 ++ [D])[S1.length]? = some D := rs1.lastNew
    refine ⟨fun i m H => m = w.items.length - i ∧ ∃ io S, Ext K (io1 ++ [D]) (upd H1 D (.lst [])) io H ∧ RS K io S H ∧ lcD w.ok t gt fe (wipeE env vs) S1.length (w.items.drop i) S = some S', ⟨_, rfl, _, _, Ext.refl, rs0, by simpa using hl⟩, ?_⟩
    rintro i m H ⟨rfl, io, S, ex, rs, hf⟩
    have hat : io[S1.length]? = some D := ex.get at0
    by_cases hi : i < w.items.length
    · rw [List.drop_eq_getElem_cons hi] at hf
      unfold lcD at hf
      split at hf
      · rename_i hok
        obtain ⟨_, hgo⟩ := ok i io S H (ex0.trans ex) rs hok
        obtain ⟨hgo, hyl⟩ := hgo _ (List.getElem?_eq_getElem hi)
        refine .inr ⟨hgo, fun H' => ∃ io S, Ext K (io1 ++ [D]) (upd H1 D (.lst [])) io H' ∧ RS K io S H' ∧ lcD w.ok t gt fe (wipeE env vs) S1.length (w.items.drop (i + 1)) S = some S', fun H' q => ⟨_, by omega, rfl, q⟩, fun x H' hy => ?_⟩
        obtain ⟨io', ex', rs', rv⟩ := hyl x H' hy
        have reW : RE K io' H' (wipeE env vs) (wipe σ vs) := ((re1.mono ex0).mono (ex.trans ex')).wipe vs
        split at hf
        · cases hf
        · rename_i env1 hput
          refine ⟨io', _, _, env1, reW, rv, hput, fun σ2 re2 f2 l2 => ⟨wipe_same (fun j hj => f2 j fun z => hj (hsub j z)) l2, ?_⟩⟩
          split at hf
          · rename_i Sa hg
            refine ⟨io', S, env1, .ok true, Sa, rs', re2, hg, fun io3 H3 b e3 rs3 eb => ?_⟩
            cases eb
            rw [if_pos rfl]
            split at hf
            · rename_i y Sb he
              refine ⟨io3, Sa, env1, .ok y, Sb, rs3, re2.mono e3, he, fun io4 H4 v e4 rs4 rv4 => ?_⟩
              split at hf
              · rename_i acc hacc
                split at hf
                · rename_i hsz
                  have hat4 : io4[S1.length]? = some D := e4.get (e3.get (ex'.get hat))
                  have hD4 := rs4.obj _ _ _ hacc hat4
                  obtain ⟨ws, w1, w2⟩ := hD4
                  obtain ⟨rs5, ex5⟩ := rs4.write hacc hat4 (w2.append (RVs.one rv4))
                  exact ⟨ws, w1, by rw [← w2.length]; exact hsz, io4, _, (((ex.trans ex').trans e3).trans e4).trans ex5, rs5, hf⟩
                · cases hf
              · cases hf
            · cases hf
          · rename_i Sa hg
            refine ⟨io', S, env1, .ok false, Sa, rs', re2, hg, fun io3 H3 b e3 rs3 eb => ?_⟩
            cases eb
            rw [if_neg Bool.false_ne_true]
            exact ⟨io3, Sa, (ex.trans ex').trans e3, rs3, hf⟩
          · cases hf
      · cases hf
    · rw [List.drop_eq_nil_of_le (by omega)] at hf
      unfold lcD at hf
      split at hf
      · rename_i hok
        cases hf
        refine .inl ⟨(ok i io _ H (ex0.trans ex) rs hok).1 (by omega), hE1 io H (.ref D) (ex0.trans ex) rs ?_⟩
        unfold RV
        exact ⟨D, hat, rfl⟩
      · cases hf
section
variable {X : Cx} {W : XK} {elt tg iter : Expr} {ifs : List Expr} {scope : Scope} {own : List (Str × Nat)} {pos : Pos} {fw : Ev → Sto → Ans Wk} {t : Tg} {gt : Ev → Sto → Ans Bool} {fe : Ev → Sto → Ans D}
theorem d_lc (hc : X.calm = true) (hN : X.N.Nodup) (hi : DI X W tg iter fw) (ok : BlkOk X.N X.env.scope scope own)
    (hg : ∀ (s : Shared) (H : Hp) (C : Addr) (cl : List (Str × Addr)) (fp : List Addr), PG (X.blk s H scope (compEnvC scope cl C X.env) fp) tg (tTg X.K t))
    (ht : ∀ (s : Shared) (H : Hp) (C : Addr) (cl : List (Str × Addr)) (fp : List Addr), PTs (X.blk s H scope (compEnvC scope cl C X.env) fp) ifs (tMT X.K X.mg E0 gt))
    (he : ∀ (s : Shared) (H : Hp) (C : Addr) (cl : List (Str × Addr)) (fp : List Addr), DE (X.blk s H scope (compEnvC scope cl C X.env) fp) E0 elt fe) (hsub : ∀ j ∈ t.slots, j ∈ own.map (·.2)) (hs : ∀ x, foldedSetIterable iter X.env x = pure x := by intro _; rfl) :
    DE X W (.ListComp elt [⟨tg, iter, ifs, 0⟩] scope pos) (dLc fw t gt fe (own.map (·.2))) := pe_weak (pe_lc hc hN hi ok hg ht he hs) fun _ _ _ h => lc_read hsub h
theorem ds_setLc {i : Nat} {y : Str} {py spos : Pos} (hc : X.calm = true) (hN : X.N.Nodup) (hy : X.N[i]? = some y) (hyl : X.env.scope.names.lookup y = some .local)
    (hsw : swapsWith (.ListComp elt [⟨tg, iter, ifs, 0⟩] scope pos) (some (.Name y py)) spos.line X.env = pure true) (hi : DI X W tg iter fw) (ok : BlkOk X.N X.env.scope scope own)
    (hg : ∀ (s : Shared) (H : Hp) (C : Addr) (cl : List (Str × Addr)) (fp : List Addr), PG (X.blk s H scope (compEnvC scope cl C X.env) fp) tg (tTg X.K t))
    (ht : ∀ (s : Shared) (H : Hp) (C : Addr) (cl : List (Str × Addr)) (fp : List Addr), PTs (X.blk s H scope (compEnvC scope cl C X.env) fp) ifs (tMT X.K X.mg E0 gt))
    (he : ∀ (s : Shared) (H : Hp) (C : Addr) (cl : List (Str × Addr)) (fp : List Addr), DE (X.blk s H scope (compEnvC scope cl C X.env) fp) E0 elt fe) (hsub : ∀ j ∈ t.slots, j ∈ own.map (·.2)) (hs : ∀ x, foldedSetIterable iter X.env x = pure x := by intro _; rfl) :
    DS X W (.Assign [.Name y py] (.ListComp elt [⟨tg, iter, ifs, 0⟩] scope pos) spos) (sAsg (.nm i) (dLc fw t gt fe (own.map (·.2)))) :=
  ps_weak (ps_setLc hc hN hy hyl hsw hi ok hg ht he hs) fun E σ H ⟨io, S, env, o, env', S', rs, re, hf, hE⟩ => lc_read hsub (tG_bindS rs re hf hE fun d S1 io1 H1 v _ e1 rs1 re1 rv h1 hE1 => by
    simp only [Tg.put] at h1
    cases h1
    exact hE1 io1 H1 _ Ext.refl rs1 (re1.set i rv))
end

/-! ### defs and their calls -/
abbrev Mir := List D → Sto → Ans D
def spM (K : PySem.W.Frag) (mg : Str → Option Value) (f : Mir) : Sp := fun vs H Q E => ∃ io S ds r S', RS K io S H ∧ RVs K io H ds vs ∧ f ds S = some (r, S') ∧ EndG K mg E (RV K) io H r S' Q
def runB (n m : Nat) (fb : Ev → Sto → AnsS) : Mir := fun ds S => if ds.length = n then match fb (ds.map some ++ List.replicate (m - n) none) S with
    | some (.nx, _, S') => some (.ok .non, S')
    | some (.rt d, _, S') => some (.ok d, S')
    | some (.ex e, _, S') => some (.ex e, S')
    | _ => none
  else none
def dCall (f : Mir) (fs : Ev → Sto → Ans (List D)) : Ev → Sto → Ans D := fun env S => bindR (fs env S) fun ds S1 => f ds S1
theorem RE.start {K : PySem.W.Frag} {io : List Addr} {H : Hp} : ∀ {ds : List D} {vs : List V}, RVs K io H ds vs → ∀ k : Nat, RE K io H (ds.map some ++ List.replicate k none) (vs.map some ++ List.replicate k none) := fun {ds vs} h k => by
  refine ⟨by simp [h.length], fun i d e => ?_⟩
  by_cases hi : i < ds.length
  · rw [List.getElem?_append_left (by simpa using hi), List.getElem?_map] at e
    cases hd : ds[i]? with
    | none => rw [hd] at e; cases e
    | some d' =>
      rw [hd] at e
      cases e
      obtain ⟨v, e1, e2⟩ := h.get hd
      refine ⟨v, ?_, e2⟩
      rw [List.getElem?_append_left (by rw [List.length_map, ← h.length]; exact hi), List.getElem?_map, e1]
      rfl
  · rw [List.getElem?_append_right (by simpa using hi), List.getElem?_replicate] at e
    split at e <;> cases e
section
variable {P : Program} {w : World} {K : PySem.W.Frag} {mg : Str → Option Value} {base : Heap}
/-- THE RULE of a def: by its body -/
theorem fn_body {x qual : Str} {st : Stmt} {f : Addr} {fd : FuncData} {N ps : List Str} {k : Nat} {fb : Ev → Sto → AnsS} (F : Fun K x qual st f fd) (S : FnScope N ps (defScope st))
    (hb : ∀ (cdv : Value) (A : Around) (outer : List Env) (s : Shared) (H : Hp) (E : XK), Room k (A.deeper (envOfC qual (defScope st) s.heap.objs.size f cdv)) → DSs (cxOf (L2.CX P w) P w K mg base N qual (defScope st) f cdv A outer s H E) E (defBody st) fb) :
    FnOk P w K mg base (L2.CX P w) (k + 1) f fd ps (spM K mg (runB ps.length N.length fb)) := by
  refine F.okX S (fun vs H Q E h => ?_) (fun cdv A outer s H vs Q E hr h => ⟨_, hb cdv A outer s H E hr, ?_⟩)
  · obtain ⟨io, S, ds, r, S', rs, rv, hf, hE⟩ := h
    unfold runB at hf
    split at hf
    · rename_i hl
      rw [← hl, rv.length]
    · cases hf
  · obtain ⟨io, S0, ds, r, S', rs, rv, hf, hE⟩ := h
    unfold runB at hf
    split at hf
    · rename_i hl
      have re : RE K io H (ds.map some ++ List.replicate (N.length - ps.length) none) (start N vs) := by
        unfold L2.start
        rw [← rv.length, hl]
        exact RE.start rv _
      cases hb : fb (ds.map some ++ List.replicate (N.length - ps.length) none) S0 with
      | none => rw [hb] at hf; cases hf
      | some q =>
        obtain ⟨o, env', S1⟩ := q
        rw [hb] at hf
        cases o with
        | nx => cases hf; exact ⟨io, S0, _, .nx, env', _, rs, re, hb, fun io' H' σ' e rs' _ => hE io' H' .non e rs' (by simp [RV])⟩
        | rt d => cases hf; exact ⟨io, S0, _, .rt d, env', _, rs, re, hb, fun io' H' v e rs' rv => hE io' H' v e rs' rv⟩
        | ex x => cases hf; exact ⟨io, S0, _, .ex x, env', _, rs, re, hb, hE⟩
        | bk => cases hf
        | ct => cases hf
    · cases hf
/-- a promise that says less: each end that c tells, f tells too, but for what lies behind in the store -/
def D.cl (n : Nat) : D → Prop
  | .ref m => m < n
  | .tup l => ∀ d ∈ l, D.cl n d
  | _ => True
end
section
variable {X : Cx} {W : XK} {f : Addr} {fd : FuncData} {ps : List Str} {k : Nat} {m : Mir} {x : Str} {p pos : Pos} {e : Expr} {es : List Expr} {fs : Ev → Sto → Ans (List D)}
theorem d_call {CX' : CXT} (F : FnOk X.prog X.w X.K X.mg X.base CX' k f fd ps (spM X.K X.mg m)) (hr : Room k X.A) (hg : Gl X x) (hm : X.mg x = some (.ref f)) (hk : PySem.W.keepIn X.K (.ref f) = true) (hb : Binds X.K fd ps []) (hx : Passes CX' X W)
    (ha : DA X W (e :: es) fs) (hdb : (x == ("__debug__" : Str)) = false := by decide) (he : starEach (e :: es) X.env = (false, eval e X.env) :: starEach es X.env := by rfl) (hpl : (backTo pos (starEach es X.env)).any (·.1) = false := by rfl) :
    DE X W (.Call (.Name x p) (e :: es) [] pos) (dCall m fs) := pe_weak (pe_call F hr hg hm hk hb .nil hx ha hdb he hpl) fun σ H Q ⟨io, S, env, r, S', rs, re, hf, hE⟩ =>
  tG_bind rs re hf hE fun ds S1 io1 H1 v e1 rs1 re1 rv1 h1 hE1 => ⟨io1, S1, ds, r, S', rs1, by rw [List.append_nil]; exact rv1, h1, hE1⟩
theorem d_call0 {CX' : CXT} (F : FnOk X.prog X.w X.K X.mg X.base CX' k f fd ps (spM X.K X.mg m)) (hr : Room k X.A) (hg : Gl X x) (hm : X.mg x = some (.ref f)) (hk : PySem.W.keepIn X.K (.ref f) = true) (hb : Binds X.K fd ps []) (hx : Passes CX' X W)
    (hdb : (x == ("__debug__" : Str)) = false := by decide) : DE X W (.Call (.Name x p) [] [] pos) (dCall m dNil) := pe_weak (pe_call0 F hr hg hm hk hb .nil hx hdb) fun σ H Q ⟨io, S, env, r, S', rs, re, hf, hE⟩ =>
  ⟨io, S, [], r, S', rs, RVs.nil, hf, hE⟩
end
end DL
namespace DL
open PySem PySem.Spec PyProof.Rows L2 RT RZ

/-! ### data as the library's data -/
mutual
def D.py : D → Option PyData
  | .non => some .none
  | .bl b => some (.bool b)
  | .int i => some (.int i)
  | .str x => some (.str x)
  | .tup l => match D.pys l with
    | some ps => some (.tuple ps)
    | none => none
  | .ref _ => none
def D.pys : List D → Option (List PyData)
  | [] => some []
  | d :: ds => match D.py d, D.pys ds with
    | some p, some ps => some (p :: ps)
    | _, _ => none
end
def toPy (S : Sto) (d : D) : Option PyData := match d with
  | .ref n => match seqOf (.ref n) S with
    | some ds => match D.pys ds with
      | some ps => some (.list ps)
      | none => none
    | none => none
  | d => d.py
section
variable {K : PySem.W.Frag} {io : List Addr} {H : Hp} {S : Sto}
mutual
theorem py_Dp : ∀ (d : D) (v : V) (p : PyData), RV K io H d v → d.py = some p → Dp K H v p
  | .non, _, _, h, e => by simp only [RV] at h; subst h; cases e; exact .non
  | .bl _, _, _, h, e => by simp only [RV] at h; subst h; cases e; exact .bl _
  | .int _, _, _, h, e => by simp only [RV] at h; subst h; cases e; exact .int _
  | .str _, _, _, h, e => by simp only [RV] at h; subst h; cases e; exact .str _
  | .tup l, v, p, h, e => by
    simp only [RV] at h
    obtain ⟨a, vs, rfl, h1, h2⟩ := h
    simp only [D.py] at e
    split at e
    · rename_i ps hp
      cases e
      exact .tup h1 (pys_Dp l vs ps h2 hp)
    · cases e
  | .ref _, _, _, _, e => by cases e
theorem pys_Dp : ∀ (ds : List D) (vs : List V) (ps : List PyData), RVs K io H ds vs → D.pys ds = some ps → DpAll K H vs ps
  | [], _, _, h, e => by simp only [RVs] at h; subst h; cases e; exact .nil
  | d :: ds, _, ps, h, e => by
    simp only [RVs] at h
    obtain ⟨v, r, rfl, h1, h2⟩ := h
    simp only [D.pys] at e
    split at e
    · rename_i p q hp hq
      cases e
      exact .cons (py_Dp d v p h1 hp) (pys_Dp ds r q h2 hq)
    · cases e
end
theorem toPy_Dp {d : D} {v : V} {p : PyData} (rs : RS K io S H) (r : RV K io H d v) (h : toPy S d = some p) : Dp K H v p := by
  cases d with
  | ref n =>
    simp only [toPy] at h
    split at h
    · rename_i ds hs
      split at h
      · rename_i ps hp
        cases h
        obtain ⟨a, vs, rfl, e2, e3, e4⟩ := rs.seq (seq_ref hs) r
        exact .lst e3 (pys_Dp ds vs ps e4 hp)
      · cases h
    · cases h
  | _ => exact py_Dp _ v p r h
end

/-! ### two-place operations -/
def fit (x : D) (S : Sto) : Option (D × Sto) := some (x, S)
open Classical in
noncomputable def gAdd : D → D → Sto → Option (D × Sto)
  | .int i, .int j, S => some (.int (i + j), S)
  | .str x, .str y, S => if x.length + y.length ≤ sizeLine then some (.str (x ++ y), S) else none
  | .tup xs, .tup ys, S => if xs.length + ys.length ≤ sizeLine then some (.tup (xs ++ ys), S) else none
  | .ref l, .ref m, S => match S[l]?, S[m]? with
    | some (.lst xs), some (.lst ys) => if xs.length + ys.length ≤ sizeLine then some (.ref S.length, S ++ [.lst (xs ++ ys)]) else none
    | _, _ => none
  | .int i, .bl k, S => some (.int (i + b2i k), S)
  | _, _, _ => none
def gSub : D → D → Sto → Option (D × Sto)
  | .int i, .int j, S => some (.int (i - j), S)
  | _, _, _ => none
open Classical in
noncomputable def gMul : D → D → Sto → Option (D × Sto)
  | .int i, .int j, S => if CMul i j ∨ CMulW i j ∨ IntMulOk i j then some (.int (i * j), S) else none
  | .str x, .int n, S => if MulOk x n then some (.str (Txt.mul x n), S) else none
  | .ref l, .int k, S => match S[l]? with
    | some (.lst xs) => if -(2 ^ 63) ≤ k ∧ k < 2 ^ 63 ∧ xs.length * k.toNat ≤ sizeLine then some (.ref S.length, S ++ [.lst (List.replicate k.toNat xs).flatten]) else none
    | _ => none
  | _, _, _ => none
open Classical in
noncomputable def gFdiv : D → D → Sto → Option (D × Sto)
  | .int i, .int j, S => if CDivW i j then some (.int (i / j), S) else none
  | _, _, _ => none
def gMod : D → D → Sto → Option (D × Sto)
  | .int i, .int j, S => if 0 < j then some (.int (i % j), S) else none
  | _, _, _ => none
open Classical in
noncomputable def gPow : D → D → Sto → Option (D × Sto)
  | .int i, .int j, S => if CPow i j then some (.int (i ^ j.toNat), S) else none
  | _, _, _ => none
def deepEq (a b : D) (S : Sto) : Option Bool := match toPy S a, toPy S b with
  | some d, some e => if SeqAt.shaped d = true ∧ SeqAt.shaped e = true then some (PyData.eqv d e) else none
  | _, _ => none
def eqB : D → D → Sto → Option Bool
  | .int i, .int j, _ => some (decide (i = j))
  | .str x, .str y, _ => some (decide (x = y))
  | .bl x, .bl y, _ => some (decide (x = y))
  | .non, .non, _ => some true
  | .non, .str _, _ => some false
  | .str _, .non, _ => some false
  | a, b, S => deepEq a b S
def blS (x : Option Bool) (S : Sto) : Option (D × Sto) := match x with
  | some b => some (.bl b, S)
  | none => none
def gEq (a b : D) (S : Sto) : Option (D × Sto) := blS (eqB a b S) S
def gNe (a b : D) (S : Sto) : Option (D × Sto) := blS ((eqB a b S).map (!·)) S
def gLt : D → D → Sto → Option (D × Sto)
  | .int i, .int j, S => some (.bl (decide (i < j)), S)
  | .str x, .str y, S => some (.bl (decide (x.cps.toList < y.cps.toList)), S)
  | _, _, _ => none
def gLe : D → D → Sto → Option (D × Sto)
  | .int i, .int j, S => some (.bl (decide (i ≤ j)), S)
  | .str x, .str y, S => some (.bl (!decide (y.cps.toList < x.cps.toList)), S)
  | _, _, _ => none
def gGt : D → D → Sto → Option (D × Sto)
  | .int i, .int j, S => some (.bl (decide (j < i)), S)
  | .str x, .str y, S => some (.bl (decide (y.cps.toList < x.cps.toList)), S)
  | _, _, _ => none
def gGe : D → D → Sto → Option (D × Sto)
  | .int i, .int j, S => some (.bl (decide (j ≤ i)), S)
  | .str x, .str y, S => some (.bl (!decide (x.cps.toList < y.cps.toList)), S)
  | _, _, _ => none
def isNon : D → Bool
  | .non => true
  | _ => false
def gIs : D → D → Sto → Option (D × Sto)
  | a, .non, S => some (.bl (isNon a), S)
  | _, _, _ => none
def gIsNot : D → D → Sto → Option (D × Sto)
  | a, .non, S => some (.bl (!isNon a), S)
  | _, _, _ => none
def D.flat : D → Bool
  | .non => true
  | .bl _ => true
  | .int _ => true
  | .str _ => true
  | _ => false
def eqF : D → D → Bool
  | .non, .non => true
  | .bl a, .bl b => a == b
  | .bl a, .int b => (if a then 1 else 0) == b
  | .int a, .bl b => a == (if b then 1 else 0)
  | .int a, .int b => a == b
  | .str a, .str b => a == b
  | _, _ => false
def inF (x : D) (xs : List D) : Bool := xs.any fun y => eqF y x
def inB (x y : D) (S : Sto) : Option Bool := match x, y with
  | .str a, .str b => some (!(Builtin.Str.occurrences b a 0 b.length 1).isEmpty)
  | x, y => match seqOf y S with
    | some ds => if x.flat = true ∧ ds.all D.flat = true then some (inF x ds) else none
    | none => none
def gIn (a b : D) (S : Sto) : Option (D × Sto) := blS (inB a b S) S
def gNotIn (a b : D) (S : Sto) : Option (D × Sto) := blS ((inB a b S).map (!·)) S
def gIx (a b : D) (S : Sto) : Option (D × Sto) := match a, b with
  | .str z, .int i => if z.length ≤ sizeLine then match atI z.cps.toList i with
      | some c => some (.str ⟨#[c]⟩, S)
      | none => none
    else none
  | a, .int i => match seqOf a S with
    | some ds => match atI ds i with
      | some d => some (d, S)
      | none => none
    | none => none
  | _, _ => none

section
variable {X : Cx}
theorem sIntII {K : PySem.W.Frag} {io : List Addr} {H : Hp} {i : Int} {v : V} (h : RV K io H (.int i) v) : v = .int i := by simpa [RV] using h
theorem sStr {K : PySem.W.Frag} {io : List Addr} {H : Hp} {i : Str} {v : V} (h : RV K io H (.str i) v) : v = .str i := by simpa [RV] using h
theorem sBl {K : PySem.W.Frag} {io : List Addr} {H : Hp} {i : Bool} {v : V} (h : RV K io H (.bl i) v) : v = .bl i := by simpa [RV] using h
theorem sNon {K : PySem.W.Frag} {io : List Addr} {H : Hp} {v : V} (h : RV K io H .non v) : v = .non := by simpa [RV] using h
theorem mInt {K : PySem.W.Frag} {io : List Addr} {H : Hp} {i : Int} : RV K io H (.int i) (.int i) := by simp [RV]
theorem mStr {K : PySem.W.Frag} {io : List Addr} {H : Hp} {i : Str} : RV K io H (.str i) (.str i) := by simp [RV]
theorem mBl {K : PySem.W.Frag} {io : List Addr} {H : Hp} {i : Bool} : RV K io H (.bl i) (.bl i) := by simp [RV]
theorem mNon {K : PySem.W.Frag} {io : List Addr} {H : Hp} : RV K io H .non .non := by simp [RV]
theorem mRef {K : PySem.W.Frag} {io : List Addr} {H : Hp} {n : Nat} {a : Addr} (h : io[n]? = some a) : RV K io H (.ref n) (.ref a) := by
  unfold RV
  exact ⟨a, h, rfl⟩
/-- ints -/
theorem opII {f : Value → Value → Sem Value} {C : Int → Int → Prop} {r : Int → Int → Int} (h : OpR X f (rI C fun i j => .int (r i j))) {pins : List (Addr × Obj)} {s : Shared} {σ : L2.St} {H : Hp} {x y : V} {v u : Value} {Q : VK} {io : List Addr} {i j : Int} (I : Inv X pins σ H s) (rx : RelV x v) (ry : RelV y u)
    (r1 : RV X.K io H (.int i) x) (r2 : RV X.K io H (.int j) y) (c : C i j) (q : Q (.int (r i j)) H) : wpAny (model X.prog X.w) X.A (f v u) (EP X pins σ Q) X.xe s :=
  h pins s σ H x y v u Q I rx ry ⟨i, j, sIntII r1, sIntII r2, c, q⟩
theorem o_add : OpD X (binaryOp .Add) gAdd := by
  intro pins s σ H x y v u Q I rx ry h
  obtain ⟨io, S, a, b, d, S', rs, r1, r2, hg, q⟩ := h
  unfold gAdd at hg
  split at hg
  · cases hg
    exact op_add pins s σ H x y v u Q I rx ry ⟨_, _, sIntII r1, sIntII r2, q io H _ Ext.refl rs mInt⟩
  · split at hg
    · rename_i hz
      cases hg
      exact op_add_str pins s σ H x y v u Q I rx ry ⟨_, _, sStr r1, sStr r2, hz, q io H _ Ext.refl rs mStr⟩
    · cases hg
  · split at hg
    · rename_i xs ys hz
      cases hg
      unfold RV at r1 r2
      obtain ⟨a, vs, rfl, p1, p2⟩ := r1
      obtain ⟨b, ws, rfl, p3, p4⟩ := r2
      refine op_catA pins s σ H _ _ v u Q I rx ry ⟨a, b, vs, ws, rfl, rfl, p1, p3, by rw [← p2.length, ← p4.length]; exact hz, fun e => ?_, fun e1 e2 => ?_, fun _ _ p hp => ?_⟩
      · subst e
        have : xs = [] := List.eq_nil_of_length_eq_zero p2.length
        subst this
        refine q io H _ Ext.refl rs ?_
        unfold RV
        exact ⟨b, ws, rfl, p3, by simpa using p4⟩
      · subst e2
        have : ys = [] := List.eq_nil_of_length_eq_zero p4.length
        subst this
        refine q io H _ Ext.refl rs ?_
        unfold RV
        exact ⟨a, vs, rfl, p1, by simpa using p2⟩
      · refine q io _ _ (Ext.fresh hp) (rs.tupNew hp) ?_
        unfold RV
        exact ⟨p, _, rfl, SqT.of upd_same, RVs.mono (Ext.fresh hp) _ _ (p2.append p4)⟩
    · cases hg
  · split at hg
    · rename_i xs ys h1 h2
      split at hg
      · rename_i hz
        cases hg
        obtain ⟨a, vs, rfl, _, p1, p2⟩ := rs.lst h1 r1
        obtain ⟨b, ws, rfl, _, p3, p4⟩ := rs.lst h2 r2
        exact op_cat pins s σ H _ _ v u Q I rx ry ⟨a, b, vs, ws, rfl, rfl, p1, p3, by rw [← p2.length, ← p4.length]; exact hz, fun p hp => q _ _ _ (Ext.new hp) (rs.lstNew hp (p2.append p4)) (mRef rs.lastNew)⟩
      · cases hg
    · cases hg
  · cases hg
    exact op_add_ib pins s σ H x y v u Q I rx ry ⟨_, _, sIntII r1, sBl r2, q io H _ Ext.refl rs mInt⟩
  · cases hg
theorem o_sub : OpD X (binaryOp .Sub) gSub := by
  intro pins s σ H x y v u Q I rx ry h
  obtain ⟨io, S, a, b, d, S', rs, r1, r2, hg, q⟩ := h
  unfold gSub at hg
  split at hg
  · cases hg
    exact op_sub pins s σ H x y v u Q I rx ry ⟨_, _, sIntII r1, sIntII r2, q io H _ Ext.refl rs mInt⟩
  · cases hg
def gIAdd : D → D → Sto → Option (D × Sto)
  | .int i, .int j, S => some (.int (i + j), S)
  | .str x, .str y, S => if x.length + y.length ≤ sizeLine then some (.str (x ++ y), S) else none
  | _, _, _ => none
theorem o_iadd : OpD X (inplaceOp .Add) gIAdd := by
  intro pins s σ H x y v u Q I rx ry h
  obtain ⟨io, S, a, b, d, S', rs, r1, r2, hg, q⟩ := h
  unfold gIAdd at hg
  split at hg
  · cases hg
    exact iop_add pins s σ H x y v u Q I rx ry ⟨_, _, sIntII r1, sIntII r2, q io H _ Ext.refl rs mInt⟩
  · split at hg
    · rename_i hz
      cases hg
      exact iop_add_str pins s σ H x y v u Q I rx ry ⟨_, _, sStr r1, sStr r2, hz, q io H _ Ext.refl rs mStr⟩
    · cases hg
  · cases hg
theorem op_mulI : OpR X (binaryOp .Mult) (rI IntMulOk fun i j => .int (i * j)) := opI fun _ _ _ _ _ _ _ hc q => mul_int q hc
theorem o_mul : OpD X (binaryOp .Mult) gMul := by
  intro pins s σ H x y v u Q I rx ry h
  obtain ⟨io, S, a, b, d, S', rs, r1, r2, hg, q⟩ := h
  unfold gMul at hg
  split at hg
  · split at hg
    · rename_i hc
      cases hg
      rcases hc with hc | hc | hc
      · exact op_mul pins s σ H x y v u Q I rx ry ⟨_, _, sIntII r1, sIntII r2, hc, q io H _ Ext.refl rs mInt⟩
      · exact op_mulW pins s σ H x y v u Q I rx ry ⟨_, _, sIntII r1, sIntII r2, hc, q io H _ Ext.refl rs mInt⟩
      · exact op_mulI pins s σ H x y v u Q I rx ry ⟨_, _, sIntII r1, sIntII r2, hc, q io H _ Ext.refl rs mInt⟩
    · cases hg
  · split at hg
    · rename_i hc
      cases hg
      have e1 := sStr r1
      have e2 := sIntII r2
      subst e1 e2
      obtain ⟨t, rfl⟩ := rx
      obtain ⟨t', rfl⟩ := ry
      exact SB.mul hc fun t2 k => ⟨.str _, H, I.tok _, ⟨_, rfl⟩, q io H _ Ext.refl rs mStr⟩
    · cases hg
  · split at hg
    · rename_i xs h1
      split at hg
      · rename_i hz
        cases hg
        obtain ⟨a, vs, rfl, _, p1, p2⟩ := rs.lst h1 r1
        have rep : ∀ k : Nat, RVs X.K io H (List.replicate k xs).flatten (List.replicate k vs).flatten := fun k => by
          induction k with
          | zero => exact RVs.nil
          | succ k ih =>
            rw [List.replicate_succ, List.replicate_succ, List.flatten_cons, List.flatten_cons]
            exact p2.append ih
        exact op_rep pins s σ H _ _ v u Q I rx ry ⟨a, _, vs, rfl, sIntII r2, p1, hz.1, hz.2.1, by rw [← p2.length]; exact hz.2.2, fun p hp => q _ _ _ (Ext.new hp) (rs.lstNew hp (rep _)) (mRef rs.lastNew)⟩
      · cases hg
    · cases hg
  · cases hg
theorem o_fdiv : OpD X (binaryOp .FloorDiv) gFdiv := by
  intro pins s σ H x y v u Q I rx ry h
  obtain ⟨io, S, a, b, d, S', rs, r1, r2, hg, q⟩ := h
  unfold gFdiv at hg
  split at hg
  · split at hg
    · rename_i hc
      cases hg
      exact op_fdivW pins s σ H x y v u Q I rx ry ⟨_, _, sIntII r1, sIntII r2, hc, q io H _ Ext.refl rs mInt⟩
    · cases hg
  · cases hg
theorem o_mod : OpD X (binaryOp .Mod) gMod := by
  intro pins s σ H x y v u Q I rx ry h
  obtain ⟨io, S, a, b, d, S', rs, r1, r2, hg, q⟩ := h
  unfold gMod at hg
  split at hg
  · split at hg
    · rename_i hc
      cases hg
      exact op_mod pins s σ H x y v u Q I rx ry ⟨_, _, sIntII r1, sIntII r2, hc, q io H _ Ext.refl rs mInt⟩
    · cases hg
  · cases hg
theorem o_pow : OpD X (binaryOp .Pow) gPow := by
  intro pins s σ H x y v u Q I rx ry h
  obtain ⟨io, S, a, b, d, S', rs, r1, r2, hg, q⟩ := h
  unfold gPow at hg
  split at hg
  · split at hg
    · rename_i hc
      cases hg
      exact op_pow pins s σ H x y v u Q I rx ry ⟨_, _, sIntII r1, sIntII r2, hc, q io H _ Ext.refl rs mInt⟩
    · cases hg
  · cases hg
theorem deep_eq {K : PySem.W.Frag} {io : List Addr} {H : Hp} {S : Sto} {a b : D} {x y : V} {r : Bool} (rs : RS K io S H) (r1 : RV K io H a x) (r2 : RV K io H b y) (h : deepEq a b S = some r) : ∃ d e, Dp K H x d ∧ Dp K H y e ∧ SeqAt.shaped d = true ∧ SeqAt.shaped e = true ∧ r = PyData.eqv d e := by
  unfold deepEq at h
  split at h
  · rename_i d e h1 h2
    split at h
    · rename_i hc
      cases h
      exact ⟨d, e, toPy_Dp rs r1 h1, toPy_Dp rs r2 h2, hc.1, hc.2, rfl⟩
    · cases h
  · cases h
theorem eqB_cases {K : PySem.W.Frag} {io : List Addr} {H : Hp} {S : Sto} {a b : D} {x y : V} {r : Bool} (rs : RS K io S H) (r1 : RV K io H a x) (r2 : RV K io H b y) (h : eqB a b S = some r) :
    (scal x y = true ∧ r = decide (x = y)) ∨ ∃ d e, Dp K H x d ∧ Dp K H y e ∧ SeqAt.shaped d = true ∧ SeqAt.shaped e = true ∧ r = PyData.eqv d e := by
  unfold eqB at h
  split at h
  · cases h
    have e1 := sIntII r1; have e2 := sIntII r2
    subst e1 e2
    exact .inl ⟨rfl, by simp⟩
  · cases h
    have e1 := sStr r1; have e2 := sStr r2
    subst e1 e2
    exact .inl ⟨rfl, by simp⟩
  · cases h
    have e1 := sBl r1; have e2 := sBl r2
    subst e1 e2
    exact .inl ⟨rfl, by simp⟩
  · cases h
    have e1 := sNon r1; have e2 := sNon r2
    subst e1 e2
    exact .inl ⟨rfl, by simp⟩
  · cases h
    have e1 := sNon r1; have e2 := sStr r2
    subst e1 e2
    exact .inl ⟨rfl, by simp⟩
  · cases h
    have e1 := sStr r1; have e2 := sNon r2
    subst e1 e2
    exact .inl ⟨rfl, by simp⟩
  · exact .inr (deep_eq rs r1 r2 h)
theorem blS_some {x : Option Bool} {S S' : Sto} {d : D} (h : blS x S = some (d, S')) : ∃ b, x = some b ∧ d = .bl b ∧ S' = S := by
  unfold blS at h
  split at h
  · cases h
    exact ⟨_, rfl, rfl, rfl⟩
  · cases h
theorem o_eq (hu : X.A.units + 64 < cLine) : OpD X (compareOp .Eq) gEq := by
  intro pins s σ H x y v u Q I rx ry h
  obtain ⟨io, S, a, b, d, S', rs, r1, r2, hg, q⟩ := h
  obtain ⟨r, h1, rfl, rfl⟩ := blS_some hg
  rcases eqB_cases rs r1 r2 h1 with ⟨h2, rfl⟩ | ⟨d, e, p1, p2, p3, p4, rfl⟩
  · exact op_eq pins s σ H x y v u Q I rx ry ⟨h2, q io H _ Ext.refl rs mBl⟩
  · exact op_eqD hu pins s σ H x y v u Q I rx ry ⟨d, e, p1, p2, p3, p4, q io H _ Ext.refl rs mBl⟩
theorem o_ne (hu : X.A.units + 64 < cLine) : OpD X (compareOp .NotEq) gNe := by
  intro pins s σ H x y v u Q I rx ry h
  obtain ⟨io, S, a, b, d, S', rs, r1, r2, hg, q⟩ := h
  obtain ⟨r, h1, rfl, rfl⟩ := blS_some hg
  obtain ⟨r', h1', rfl⟩ : ∃ r', eqB a b S' = some r' ∧ r = !r' := by
    cases he : eqB a b S' with
    | none => rw [he] at h1; cases h1
    | some r' => rw [he] at h1; cases h1; exact ⟨r', rfl, rfl⟩
  rcases eqB_cases rs r1 r2 h1' with ⟨h2, rfl⟩ | ⟨d, e, p1, p2, p3, p4, rfl⟩
  · exact op_ne pins s σ H x y v u Q I rx ry ⟨h2, q io H _ Ext.refl rs mBl⟩
  · exact op_neD hu pins s σ H x y v u Q I rx ry ⟨d, e, p1, p2, p3, p4, q io H _ Ext.refl rs mBl⟩
theorem o_lt : OpD X (compareOp .Lt) gLt := by
  intro pins s σ H x y v u Q I rx ry h
  obtain ⟨io, S, a, b, d, S', rs, r1, r2, hg, q⟩ := h
  unfold gLt at hg
  split at hg
  · cases hg
    exact op_lt pins s σ H x y v u Q I rx ry ⟨_, _, sIntII r1, sIntII r2, q io H _ Ext.refl rs mBl⟩
  · cases hg
    exact op_lt_str pins s σ H x y v u Q I rx ry ⟨_, _, sStr r1, sStr r2, q io H _ Ext.refl rs mBl⟩
  · cases hg
theorem o_le : OpD X (compareOp .LtE) gLe := by
  intro pins s σ H x y v u Q I rx ry h
  obtain ⟨io, S, a, b, d, S', rs, r1, r2, hg, q⟩ := h
  unfold gLe at hg
  split at hg
  · cases hg
    exact op_le pins s σ H x y v u Q I rx ry ⟨_, _, sIntII r1, sIntII r2, q io H _ Ext.refl rs mBl⟩
  · cases hg
    exact op_le_str pins s σ H x y v u Q I rx ry ⟨_, _, sStr r1, sStr r2, q io H _ Ext.refl rs mBl⟩
  · cases hg
theorem o_gt : OpD X (compareOp .Gt) gGt := by
  intro pins s σ H x y v u Q I rx ry h
  obtain ⟨io, S, a, b, d, S', rs, r1, r2, hg, q⟩ := h
  unfold gGt at hg
  split at hg
  · cases hg
    exact op_gt pins s σ H x y v u Q I rx ry ⟨_, _, sIntII r1, sIntII r2, q io H _ Ext.refl rs mBl⟩
  · cases hg
    exact op_gt_str pins s σ H x y v u Q I rx ry ⟨_, _, sStr r1, sStr r2, q io H _ Ext.refl rs mBl⟩
  · cases hg
theorem o_ge : OpD X (compareOp .GtE) gGe := by
  intro pins s σ H x y v u Q I rx ry h
  obtain ⟨io, S, a, b, d, S', rs, r1, r2, hg, q⟩ := h
  unfold gGe at hg
  split at hg
  · cases hg
    exact op_ge pins s σ H x y v u Q I rx ry ⟨_, _, sIntII r1, sIntII r2, q io H _ Ext.refl rs mBl⟩
  · cases hg
    exact op_ge_str pins s σ H x y v u Q I rx ry ⟨_, _, sStr r1, sStr r2, q io H _ Ext.refl rs mBl⟩
  · cases hg
theorem rv_non {K : PySem.W.Frag} {io : List Addr} {H : Hp} {a : D} {x : V} (r : RV K io H a x) : decide (x = .non) = isNon a := by
  cases a with
  | non => simp only [RV] at r; subst r; rfl
  | bl _ => simp only [RV] at r; subst r; rfl
  | int _ => simp only [RV] at r; subst r; rfl
  | str _ => simp only [RV] at r; subst r; rfl
  | tup _ => simp only [RV] at r; obtain ⟨a, _, rfl, _⟩ := r; rfl
  | ref _ => simp only [RV] at r; obtain ⟨a, _, rfl⟩ := r; rfl
theorem o_is : OpD X (compareOp .Is) gIs := by
  intro pins s σ H x y v u Q I rx ry h
  obtain ⟨io, S, a, b, d, S', rs, r1, r2, hg, q⟩ := h
  unfold gIs at hg
  split at hg
  · cases hg
    exact op_isN pins s σ H x y v u Q I rx ry ⟨sNon r2, by rw [rv_non r1]; exact q io H _ Ext.refl rs mBl⟩
  · cases hg
theorem o_isnot : OpD X (compareOp .IsNot) gIsNot := by
  intro pins s σ H x y v u Q I rx ry h
  obtain ⟨io, S, a, b, d, S', rs, r1, r2, hg, q⟩ := h
  unfold gIsNot at hg
  split at hg
  · cases hg
    exact op_notN pins s σ H x y v u Q I rx ry ⟨sNon r2, by rw [rv_non r1]; exact q io H _ Ext.refl rs mBl⟩
  · cases hg
theorem flat_V {K : PySem.W.Frag} {io : List Addr} {H : Hp} {a : D} {x : V} (r : RV K io H a x) (h : a.flat = true) : flatV x = true := by
  cases a with
  | non => simp only [RV] at r; subst r; rfl
  | bl _ => simp only [RV] at r; subst r; rfl
  | int _ => simp only [RV] at r; subst r; rfl
  | str _ => simp only [RV] at r; subst r; rfl
  | tup _ => cases h
  | ref _ => cases h
theorem eqF_V {K : PySem.W.Frag} {io : List Addr} {H : Hp} {a b : D} {x y : V} (r : RV K io H a x) (q : RV K io H b y) (h : a.flat = true) (h' : b.flat = true) : eqV x y = eqF a b := by
  cases a <;> first | cases h | skip
  all_goals (cases b <;> first | cases h' | skip)
  all_goals (simp only [RV] at r q; subst r; subst q; rfl)
theorem flats_V {K : PySem.W.Frag} {io : List Addr} {H : Hp} : ∀ {ds : List D} {vs : List V}, RVs K io H ds vs → ds.all D.flat = true → vs.all flatV = true
  | [], _, r, _ => by simp only [RVs] at r; subst r; rfl
  | d :: ds, _, r, h => by
    simp only [RVs] at r
    obtain ⟨v, w, rfl, r1, r2⟩ := r
    simp only [List.all_cons, Bool.and_eq_true] at h ⊢
    exact ⟨flat_V r1 h.1, flats_V r2 h.2⟩
theorem inF_V {K : PySem.W.Frag} {io : List Addr} {H : Hp} {a : D} {x : V} (ra : RV K io H a x) (ha : a.flat = true) : ∀ {ds : List D} {vs : List V}, RVs K io H ds vs → ds.all D.flat = true → inV x vs = inF a ds
  | [], _, r, _ => by simp only [RVs] at r; subst r; rfl
  | d :: ds, _, r, h => by
    simp only [RVs] at r
    obtain ⟨v, w, rfl, r1, r2⟩ := r
    simp only [List.all_cons, Bool.and_eq_true] at h
    show (eqV v x || inV x w) = (eqF d a || inF a ds)
    rw [eqF_V r1 ra h.1 ha, inF_V ra ha r2 h.2]
theorem inB_cases {K : PySem.W.Frag} {io : List Addr} {H : Hp} {S : Sto} {a b : D} {x y : V} {r : Bool} (rs : RS K io S H) (r1 : RV K io H a x) (r2 : RV K io H b y) (h : inB a b S = some r) :
    (∃ i j, x = .str i ∧ y = .str j ∧ r = !(Builtin.Str.occurrences j i 0 j.length 1).isEmpty) ∨ ∃ p xs, y = .ref p ∧ (SqL K H p xs ∨ SqT K H p xs) ∧ flatV x = true ∧ xs.all flatV = true ∧ r = inV x xs := by
  unfold inB at h
  split at h
  · cases h
    exact .inl ⟨_, _, sStr r1, sStr r2, rfl⟩
  · split at h
    · rename_i ds hs
      split at h
      · rename_i hc
        cases h
        obtain ⟨p, vs, rfl, e2, e3⟩ := RV.seq rs r2 hs
        exact .inr ⟨p, vs, rfl, e2, flat_V r1 hc.1, flats_V e3 hc.2, (inF_V r1 hc.1 e3 hc.2).symm⟩
      · cases h
    · cases h
theorem o_in : OpD X (compareOp .In) gIn := by
  intro pins s σ H x y v u Q I rx ry h
  obtain ⟨io, S, a, b, d, S', rs, r1, r2, hg, q⟩ := h
  obtain ⟨r, h1, rfl, rfl⟩ := blS_some hg
  rcases inB_cases rs r1 r2 h1 with ⟨i, j, e1, e2, rfl⟩ | ⟨p, xs, e1, e2, e3, e4, rfl⟩
  · exact op_in_str pins s σ H x y v u Q I rx ry ⟨i, j, e1, e2, q io H _ Ext.refl rs mBl⟩
  · exact op_in_seq pins s σ H x y v u Q I rx ry ⟨p, xs, e1, e2, e3, e4, q io H _ Ext.refl rs mBl⟩
theorem o_notin : OpD X (compareOp .NotIn) gNotIn := by
  intro pins s σ H x y v u Q I rx ry h
  obtain ⟨io, S, a, b, d, S', rs, r1, r2, hg, q⟩ := h
  obtain ⟨r, h1, rfl, rfl⟩ := blS_some hg
  obtain ⟨r', h1', rfl⟩ : ∃ r', inB a b S' = some r' ∧ r = !r' := by
    cases he : inB a b S' with
    | none => rw [he] at h1; cases h1
    | some r' => rw [he] at h1; cases h1; exact ⟨r', rfl, rfl⟩
  rcases inB_cases rs r1 r2 h1' with ⟨i, j, e1, e2, rfl⟩ | ⟨p, xs, e1, e2, e3, e4, rfl⟩
  · exact op_notIn_str pins s σ H x y v u Q I rx ry ⟨i, j, e1, e2, q io H _ Ext.refl rs mBl⟩
  · exact op_notIn_seq pins s σ H x y v u Q I rx ry ⟨p, xs, e1, e2, e3, e4, q io H _ Ext.refl rs mBl⟩
theorem RVs.at {K : PySem.W.Frag} {io : List Addr} {H : Hp} {ds : List D} {vs : List V} {i : Int} {d : D} (h : RVs K io H ds vs) (e : atI ds i = some d) : ∃ v, atI vs i = some v ∧ RV K io H d v := by
  unfold atI at e ⊢
  rw [← h.length]
  cases hn : ixN ds.length i with
  | none => rw [hn] at e; cases e
  | some j =>
    rw [hn] at e
    exact h.get e
theorem gIx_cases {K : PySem.W.Frag} {io : List Addr} {H : Hp} {S S' : Sto} {a b d : D} {x y : V} {Q : VK} (rs : RS K io S H) (r1 : RV K io H a x) (r2 : RV K io H b y) (h : gIx a b S = some (d, S')) (q : ∀ io' H' v, Ext K io H io' H' → RS K io' S' H' → RV K io' H' d v → Q v H') : rIx K x y H Q := by
  unfold gIx at h
  split at h
  · split at h
    · rename_i hz
      split at h
      · rename_i c hc
        cases h
        exact .inr (.inr ⟨_, _, c, sStr r1, sIntII r2, hz, hc, q io H _ Ext.refl rs mStr⟩)
      · cases h
    · cases h
  · split at h
    · rename_i ds hs
      split at h
      · rename_i e he
        cases h
        obtain ⟨p, vs, rfl, e2, e3⟩ := RV.seq rs r1 hs
        obtain ⟨w, w1, w2⟩ := e3.at he
        rcases e2 with e2 | e2
        · exact .inl ⟨p, vs, _, w, rfl, sIntII r2, e2, w1, q io H _ Ext.refl rs w2⟩
        · exact .inr (.inl ⟨p, vs, _, w, rfl, sIntII r2, e2, w1, q io H _ Ext.refl rs w2⟩)
      · cases h
    · cases h
  · cases h
theorem i_ix : IxR X (rM X.K gIx) := by
  intro value slice pins s σ H x y v u Q I rx ry h hs
  obtain ⟨io, S, a, b, d, S', rs, r1, r2, hg, q⟩ := h
  exact ix_seq value slice pins s σ H x y v u Q I rx ry (gIx_cases rs r1 r2 hg q) hs
/-- xs[i] read by o[i] op= e -/
def gIxL (a b : D) (S : Sto) : Option (D × Sto) := match a, b with
  | .ref n, .int i => match seqOf (.ref n) S with
    | some ds => match atI ds i with
      | some d => if 0 ≤ i then some (d, S) else none
      | none => none
    | none => none
  | _, _ => none
def gSetL (a b d : D) (S : Sto) : Option Sto := match a, b with
  | .ref n, .int k => match S[n]? with
    | some (.lst ds) => match ixN ds.length k with
      | some j => some (S.set n (.lst (ds.set j d)))
      | none => none
    | _ => none
  | _, _ => none
theorem s_list : SetD X gSetL := by
  intro pins s σ H o i v ov iv u Q I ro ri rv h
  obtain ⟨io, S, a, b, d, S', rs, r1, r2, r3, hg, q⟩ := h
  unfold gSetL at hg
  split at hg
  · split at hg
    · rename_i ds h1
      split at hg
      · rename_i j hj
        cases hg
        obtain ⟨a, vs, rfl, e1, p1, p2⟩ := rs.lst h1 r1
        obtain ⟨rs', ex⟩ := rs.write h1 e1 (RVs.set r3 j p2)
        exact set_list pins s σ H _ _ v ov iv u Q I ro ri rv ⟨a, vs, _, j, rfl, sIntII r2, p1, by rw [← p2.length]; exact hj, q io _ ex rs'⟩
      · cases hg
    · cases hg
  · cases hg
/-! slices -/
def dOpt (f : Option (Ev → Sto → Ans D)) : Ev → Sto → Ans (Option Int) := fun env S => match f with
  | none => some (.ok none, S)
  | some f => bindR (f env S) fun d S1 => match d with
    | .int i => some (.ok (some i), S1)
    | _ => none
def cutD (xs : List D) (lo hi : Option Int) : List D := (xs.drop (HT.sIx xs.length 0 lo)).take (HT.sIx xs.length xs.length hi - HT.sIx xs.length 0 lo)
def gSl (a : D) (lo hi : Option Int) (S : Sto) : Option (D × Sto) := match a with
  | .str z => if z.length ≤ sizeLine then some (.str (cutS z lo hi), S) else none
  | .tup ds => some (.tup (cutD ds lo hi), S)
  | .ref n => match seqOf (.ref n) S with
    | some ds => some (.ref S.length, S ++ [.lst (cutD ds lo hi)])
    | none => none
  | _ => none
def dSl (fa : Ev → Sto → Ans D) (fl fh : Option (Ev → Sto → Ans D)) : Ev → Sto → Ans D := fun env S => bindR (fa env S) fun a S1 => bindR (dOpt fl env S1) fun lo S2 => bindR (dOpt fh env S2) fun hi S3 => okO (gSl a lo hi S3)
end
end DL
namespace DL
open PySem PySem.Spec PyProof.Rows L2 RT RZ

/-! ### slices -/
section
variable {K : PySem.W.Frag} {mg : Str → Option Value} {W : XK} {X : Cx}
theorem cutRV {io : List Addr} {H : Hp} {ds : List D} {vs : List V} (h : RVs K io H ds vs) (lo hi : Option Int) : RVs K io H (cutD ds lo hi) (cutV vs lo hi) := by
  unfold cutD cutV
  rw [h.length]
  exact (h.drop _).take _
def rSlM (K : PySem.W.Frag) (g : D → Option Int → Option Int → Sto → Option (D × Sto)) : V → Option Int → Option Int → Hp → VK → Prop := fun x lo hi H Q =>
  ∃ io S a d S', RS K io S H ∧ RV K io H a x ∧ g a lo hi S = some (d, S') ∧ ∀ io' H' v, Ext K io H io' H' → RS K io' S' H' → RV K io' H' d v → Q v H'
theorem sl_all : SlR X (rSlM X.K gSl) := by
  intro pins s σ H x v vl vu lo hi sl Q I rx hs pl pu h
  obtain ⟨io, S, a, d, S', rs, r1, hg, q⟩ := h
  unfold gSl at hg
  split at hg
  · split at hg
    · rename_i hz
      cases hg
      exact sl_str pins s σ H x v vl vu lo hi sl Q I rx hs pl pu ⟨_, sStr r1, hz, q io H _ Ext.refl rs mStr⟩
    · cases hg
  · rename_i ds
    cases hg
    unfold RV at r1
    obtain ⟨p, vs, rfl, e1, e2⟩ := r1
    refine sl_tupA pins s σ H _ v vl vu lo hi sl Q I rx hs pl pu ⟨p, vs, rfl, e1, fun hw => ?_, fun _ t ht => ?_⟩
    · refine q io H _ Ext.refl rs ?_
      unfold RV
      refine ⟨p, vs, rfl, e1, ?_⟩
      have : cutD ds lo hi = ds := by
        unfold cutD
        rw [e2.length, hw.1, hw.2]
        simp only [List.drop_zero, Nat.sub_zero]
        exact List.take_of_length_le (by rw [e2.length]; exact Nat.le_refl _)
      rw [this]
      exact e2
    · refine q io _ _ (Ext.fresh ht) (rs.tupNew ht) ?_
      unfold RV
      exact ⟨t, _, rfl, SqT.of upd_same, RVs.mono (Ext.fresh ht) _ _ (cutRV e2 lo hi)⟩
  · split at hg
    · rename_i ds h1
      cases hg
      obtain ⟨p, vs, rfl, e1, e2, e3⟩ := rs.seq (seq_ref h1) r1
      exact sl_list pins s σ H _ v vl vu lo hi sl Q I rx hs pl pu ⟨p, vs, rfl, e2, fun t ht => q _ _ _ (Ext.new ht) (rs.lstNew ht (cutRV e3 lo hi)) (mRef rs.lastNew)⟩
    · cases hg
  · cases hg
abbrev rOI : List Addr → Hp → Option Int → Option Int → Prop := fun _ _ a b => a = b
theorem po_weak {e : Option Expr} {t t' : TO} (h : PO X e t) (w : ∀ σ H Q, t' σ H Q → t σ H Q) : PO X e t' := ⟨fun pins s σ H Q I q => h.run pins s σ H Q I (w σ H Q q)⟩
abbrev DO (X : Cx) (W : XK) (e : Option Expr) (f : Option (Ev → Sto → Ans D)) : Prop := PO X e (tG X.K X.mg W rOI (dOpt f))
theorem do_none : DO X W none none := po_weak po_none fun σ H Q ⟨io, S, env, r, S', rs, re, hf, hE⟩ => by
  cases hf
  exact hE.now rs rfl
theorem do_some {e : Expr} {f : Ev → Sto → Ans D} (h : DE X W e f) : DO X W (some e) (some f) := po_weak (po_some h) fun σ H Q ⟨io, S, env, r, S', rs, re, hf, hE⟩ =>
  tG_bind rs re hf hE fun d S1 io1 H1 v e1 rs1 re1 rv1 h1 hE1 => by
    cases d with
    | int i =>
      cases h1
      exact ⟨i, sIntII rv1, hE1.now rs1 rfl⟩
    | _ => cases h1
theorem d_slice {e : Expr} {lo hi : Option Expr} {p2 pos : Pos} {fa : Ev → Sto → Ans D} {fl fh : Option (Ev → Sto → Ans D)} (he : DE X W e fa) (hl : DO X W lo fl) (hu : DO X W hi fh) : DE X W (.Subscript e (.Slice lo hi none p2) pos) (dSl fa fl fh) :=
  pe_weak (pe_slice sl_all he hl hu) fun σ H Q ⟨io, S, env, r, S', rs, re, hf, hE⟩ =>
    tG_bind rs re hf hE fun a S1 io1 H1 v e1 rs1 re1 rv1 h1 hE1 => tG_bind rs1 re1 h1 hE1 fun b S2 io2 H2 w e2 rs2 re2 rv2 h2 hE2 => tG_bind rs2 re2 h2 hE2 fun c S3 io3 H3 u e3 rs3 re3 rv3 h3 hE3 => by
      cases rv2
      cases rv3
      obtain ⟨d, h4, rfl⟩ := okO_some h3
      exact ⟨io3, S3, a, d, S', rs3, RV.mono (e2.trans e3) _ _ rv1, h4, hE3⟩
end

/-! ### calls of built-ins -/
def cInt : List D → Sto → Option (D × Sto)
  | [.int i], S => some (.int i, S)
  | [.bl k], S => some (.int (if k then 1 else 0), S)
  | _, _ => none
def cAbs : List D → Sto → Option (D × Sto)
  | [.int i], S => some (.int (if i < 0 then -i else i), S)
  | _, _ => none
def cMax2 : List D → Sto → Option (D × Sto)
  | [.int i, .int j], S => some (.int (if j > i then j else i), S)
  | _, _ => none
def cMin2 : List D → Sto → Option (D × Sto)
  | [.int i, .int j], S => some (.int (if j < i then j else i), S)
  | _, _ => none
def cLen : List D → Sto → Option (D × Sto)
  | [.str x], S => if x.length ≤ sizeLine then some (.int x.length, S) else none
  | [d], S => match seqOf d S with
    | some ds => some (.int ds.length, S)
    | none => none
  | _, _ => none
def cList : List D → Sto → Option (D × Sto)
  | [d], S => match seqOf d S with
    | some ds => some (.ref S.length, S ++ [.lst ds])
    | none => none
  | _, _ => none
def cTuple : List D → Sto → Option (D × Sto)
  | [d], S => match seqOf d S with
    | some ds => some (.tup ds, S)
    | none => none
  | _, _ => none
def cStr : List D → Sto → Option (D × Sto)
  | [.int i], S => if i.natAbs.log2 < 1920 then some (.str (Str.ofString (toString i)), S) else none
  | [.str x], S => some (.str x, S)
  | _, _ => none
def intsOf : List D → Option (List Int)
  | [] => some []
  | .int i :: ds => match intsOf ds with
    | some is => some (i :: is)
    | none => none
  | _ => none
def strsOf : List D → Option (List Str)
  | [] => some []
  | .str i :: ds => match strsOf ds with
    | some is => some (i :: is)
    | none => none
  | _ => none
def blsOf : List D → Option (List Bool)
  | [] => some []
  | .bl i :: ds => match blsOf ds with
    | some is => some (i :: is)
    | none => none
  | _ => none
def cSum : List D → Sto → Option (D × Sto)
  | [.ref n], S => match seqOf (.ref n) S with
    | some ds => match intsOf ds with
      | some is => some (.int is.sum, S)
      | none => none
    | none => none
  | _, _ => none
def cAny : List D → Sto → Option (D × Sto)
  | [.ref n], S => match seqOf (.ref n) S with
    | some ds => match blsOf ds with
      | some is => some (.bl (is.any id), S)
      | none => none
    | none => none
  | _, _ => none
def cAll : List D → Sto → Option (D × Sto)
  | [.ref n], S => match seqOf (.ref n) S with
    | some ds => match blsOf ds with
      | some is => some (.bl (is.all id), S)
      | none => none
    | none => none
  | _, _ => none
/-- texts in order -/
def leS (a b : Str) : Bool := !decide (b.cps.toList < a.cps.toList)
def sortS (xs : List Str) : List Str := xs.mergeSort leS
def cSortedS : List D → Sto → Option (D × Sto)
  | [.ref n], S => match seqOf (.ref n) S with
    | some ds => match strsOf ds with
      | some is => if is.length < 64 then some (.ref S.length, S ++ [.lst ((sortS is).map D.str)]) else none
      | none => none
    | none => none
  | _, _ => none
theorem ltCps_eq : ∀ x y : List Nat, ltCps x y = decide (x < y)
  | [], [] => by simp [ltCps]
  | [], _ :: _ => by simp [ltCps]
  | _ :: _, [] => by simp [ltCps]
  | a :: r, b :: t => by
    unfold ltCps
    rw [ltCps_eq r t, Bool.eq_iff_iff]
    simp [List.cons_lt_cons_iff]
theorem leS_iff {a b : Str} : leS a b = true ↔ a.cps.toList ≤ b.cps.toList := by
  unfold leS
  rw [Bool.not_eq_true', decide_eq_false_iff_not]
  rfl
theorem leS_trans (a b c : Str) (h : leS a b = true) (h' : leS b c = true) : leS a c = true := leS_iff.mpr (List.le_trans (leS_iff.mp h) (leS_iff.mp h'))
theorem leS_total (a b : Str) : (leS a b || leS b a) = true := by
  rcases List.le_total a.cps.toList b.cps.toList with h | h
  · rw [leS_iff.mpr h]
    rfl
  · rw [leS_iff.mpr h, Bool.or_true]
theorem leS_antisymm {a b : Str} (h : leS a b = true) (h' : leS b a = true) : a = b := by
  have e : a.cps.toList = b.cps.toList := List.le_antisymm (leS_iff.mp h) (leS_iff.mp h')
  cases a
  cases b
  simp only at e
  rw [Array.toList_inj] at e
  rw [e]
theorem risingS_pw : ∀ (l : List Str) (p : Str), risingS p l = true → (p :: l).Pairwise fun a b => leS a b = true
  | [], p, _ => List.pairwise_singleton _ _
  | x :: r, p, h => by
    unfold risingS at h
    simp only [Bool.and_eq_true, Bool.not_eq_true'] at h
    have ih := risingS_pw r x h.2
    have hp : leS p x = true := by
      unfold leS
      rw [← ltCps_eq, h.1]
      rfl
    refine List.Pairwise.cons (fun y hy => ?_) ih
    rcases List.mem_cons.mp hy with rfl | hy
    · exact hp
    · exact leS_trans _ _ _ hp ((List.pairwise_cons.mp ih).1 y hy)
theorem sortedS_pw (l : List Str) (h : sortedS l = true) : l.Pairwise fun a b => leS a b = true := by
  cases l with
  | nil => exact List.Pairwise.nil
  | cons x r => exact risingS_pw r x h
theorem sortS_unique {xs ys : List Str} (p : ys.Perm xs) (h : sortedS ys = true) : ys = sortS xs :=
  List.Perm.eq_of_pairwise (le := fun a b => leS a b = true) (fun a b _ _ h1 h2 => leS_antisymm h1 h2) (sortedS_pw ys h) (List.pairwise_mergeSort leS_trans leS_total xs) (p.trans (List.mergeSort_perm xs leS).symm)
section
variable {K : PySem.W.Frag} {io : List Addr} {H : Hp}
theorem ints_V : ∀ {ds : List D} {is : List Int} {vs : List V}, intsOf ds = some is → RVs K io H ds vs → vs = is.map V.int
  | [], is, vs, h, r => by simp only [RVs] at r; cases h; rw [r]; rfl
  | .int i :: ds, is, vs, h, r => by
    simp only [RVs] at r
    obtain ⟨v, w, rfl, r1, r2⟩ := r
    unfold intsOf at h
    split at h
    · rename_i js hj
      cases h
      rw [sIntII r1, ints_V hj r2]
      rfl
    · cases h
  | .non :: _, _, _, h, _ => by cases h
  | .bl _ :: _, _, _, h, _ => by cases h
  | .str _ :: _, _, _, h, _ => by cases h
  | .tup _ :: _, _, _, h, _ => by cases h
  | .ref _ :: _, _, _, h, _ => by cases h
theorem strs_V : ∀ {ds : List D} {is : List Str} {vs : List V}, strsOf ds = some is → RVs K io H ds vs → vs = is.map V.str
  | [], is, vs, h, r => by simp only [RVs] at r; cases h; rw [r]; rfl
  | .str i :: ds, is, vs, h, r => by
    simp only [RVs] at r
    obtain ⟨v, w, rfl, r1, r2⟩ := r
    unfold strsOf at h
    split at h
    · rename_i js hj
      cases h
      rw [sStr r1, strs_V hj r2]
      rfl
    · cases h
  | .non :: _, _, _, h, _ => by cases h
  | .bl _ :: _, _, _, h, _ => by cases h
  | .int _ :: _, _, _, h, _ => by cases h
  | .tup _ :: _, _, _, h, _ => by cases h
  | .ref _ :: _, _, _, h, _ => by cases h
theorem bls_V : ∀ {ds : List D} {is : List Bool} {vs : List V}, blsOf ds = some is → RVs K io H ds vs → vs = is.map V.bl
  | [], is, vs, h, r => by simp only [RVs] at r; cases h; rw [r]; rfl
  | .bl i :: ds, is, vs, h, r => by
    simp only [RVs] at r
    obtain ⟨v, w, rfl, r1, r2⟩ := r
    unfold blsOf at h
    split at h
    · rename_i js hj
      cases h
      rw [sBl r1, bls_V hj r2]
      rfl
    · cases h
  | .non :: _, _, _, h, _ => by cases h
  | .str _ :: _, _, _, h, _ => by cases h
  | .int _ :: _, _, _, h, _ => by cases h
  | .tup _ :: _, _, _, h, _ => by cases h
  | .ref _ :: _, _, _, h, _ => by cases h
theorem strsRV : ∀ (xs : List Str), RVs K io H (xs.map D.str) (xs.map V.str)
  | [] => RVs.nil
  | x :: xs => RVs.cons mStr (strsRV xs)
theorem rvs1 {d : D} {vs : List V} (h : RVs K io H [d] vs) : ∃ v, vs = [v] ∧ RV K io H d v := by
  simp only [RVs] at h
  obtain ⟨v, r, rfl, h1, rfl⟩ := h
  exact ⟨v, rfl, h1⟩
end
section
variable {X : Cx}
theorem c_int : CallD X (.type "int") cInt := by
  intro pins s σ H xs us Q I r h
  obtain ⟨io, S, ds, d, S', rs, rv, hg, q⟩ := h
  unfold cInt at hg
  split at hg
  · cases hg
    obtain ⟨v, rfl, e⟩ := rvs1 rv
    exact call_int1 pins s σ H _ us Q I r (.inl ⟨_, by rw [sIntII e], q io H _ Ext.refl rs mInt⟩)
  · cases hg
    obtain ⟨v, rfl, e⟩ := rvs1 rv
    exact call_int1 pins s σ H _ us Q I r (.inr ⟨_, by rw [sBl e], q io H _ Ext.refl rs mInt⟩)
  · cases hg
theorem c_abs : CallD X (.builtin "abs") cAbs := by
  intro pins s σ H xs us Q I r h
  obtain ⟨io, S, ds, d, S', rs, rv, hg, q⟩ := h
  unfold cAbs at hg
  split at hg
  · cases hg
    obtain ⟨v, rfl, e⟩ := rvs1 rv
    exact call_abs pins s σ H _ us Q I r ⟨_, by rw [sIntII e], q io H _ Ext.refl rs mInt⟩
  · cases hg
theorem c_max2 (hc : X.calm = true) : CallD X (.builtin "max") cMax2 := by
  intro pins s σ H xs us Q I r h
  obtain ⟨io, S, ds, d, S', rs, rv, hg, q⟩ := h
  unfold cMax2 at hg
  split at hg
  · cases hg
    exact call_max2 hc pins s σ H _ us Q I r ⟨_, _, RVs.int2 rv, q io H _ Ext.refl rs mInt⟩
  · cases hg
theorem c_min2 (hc : X.calm = true) : CallD X (.builtin "min") cMin2 := by
  intro pins s σ H xs us Q I r h
  obtain ⟨io, S, ds, d, S', rs, rv, hg, q⟩ := h
  unfold cMin2 at hg
  split at hg
  · cases hg
    exact call_min2 hc pins s σ H _ us Q I r ⟨_, _, RVs.int2 rv, q io H _ Ext.refl rs mInt⟩
  · cases hg
theorem c_len : CallD X (.builtin "len") cLen := by
  intro pins s σ H xs us Q I r h
  obtain ⟨io, S, ds, d, S', rs, rv, hg, q⟩ := h
  unfold cLen at hg
  split at hg
  · split at hg
    · rename_i hz
      cases hg
      obtain ⟨v, rfl, e⟩ := rvs1 rv
      exact call_len_str pins s σ H _ us Q I r ⟨_, by rw [sStr e], hz, q io H _ Ext.refl rs mInt⟩
    · cases hg
  · split at hg
    · rename_i es hs
      cases hg
      obtain ⟨v, rfl, e⟩ := rvs1 rv
      obtain ⟨p, vs, rfl, e2, e3⟩ := RV.seq rs e hs
      exact call_len_seq pins s σ H _ us Q I r ⟨p, vs, rfl, e2, by rw [← e3.length]; exact q io H _ Ext.refl rs mInt⟩
    · cases hg
  · cases hg
theorem c_list : CallD X (.type "list") cList := by
  intro pins s σ H xs us Q I r h
  obtain ⟨io, S, ds, d, S', rs, rv, hg, q⟩ := h
  unfold cList at hg
  split at hg
  · split at hg
    · rename_i es hs
      cases hg
      obtain ⟨v, rfl, e⟩ := rvs1 rv
      obtain ⟨p, vs, rfl, e2, e3⟩ := RV.seq rs e hs
      exact call_list_of pins s σ H _ us Q I r ⟨p, vs, rfl, e2, fun t ht => q _ _ _ (Ext.new ht) (rs.lstNew ht e3) (mRef rs.lastNew)⟩
    · cases hg
  · cases hg
theorem c_tuple : CallD X (.type "tuple") cTuple := by
  intro pins s σ H xs us Q I r h
  obtain ⟨io, S, ds, d, S', rs, rv, hg, q⟩ := h
  unfold cTuple at hg
  split at hg
  · split at hg
    · rename_i es hs
      cases hg
      obtain ⟨v, rfl, e⟩ := rvs1 rv
      obtain ⟨p, vs, rfl, e2, e3⟩ := RV.seq rs e hs
      refine call_tuple_of pins s σ H _ us Q I r ⟨p, vs, rfl, ?_⟩
      rcases e2 with e2 | e2
      · refine .inl ⟨e2, fun t ht => q io _ _ (Ext.fresh ht) (rs.tupNew ht) ?_⟩
        unfold RV
        exact ⟨t, _, rfl, SqT.of upd_same, RVs.mono (Ext.fresh ht) _ _ e3⟩
      · refine .inr ⟨e2, q io H _ Ext.refl rs ?_⟩
        unfold RV
        exact ⟨p, vs, rfl, e2, e3⟩
    · cases hg
  · cases hg
theorem c_str : CallD X (.type "str") cStr := by
  intro pins s σ H xs us Q I r h
  obtain ⟨io, S, ds, d, S', rs, rv, hg, q⟩ := h
  unfold cStr at hg
  split at hg
  · split at hg
    · rename_i hz
      cases hg
      obtain ⟨v, rfl, e⟩ := rvs1 rv
      exact call_str_int pins s σ H _ us Q I r ⟨_, by rw [sIntII e], hz, q io H _ Ext.refl rs mStr⟩
    · cases hg
  · cases hg
    obtain ⟨v, rfl, e⟩ := rvs1 rv
    exact SkE.call_str_str pins s σ H _ us Q I r ⟨_, by rw [sStr e], q io H _ Ext.refl rs mStr⟩
  · cases hg
theorem c_sum (hc : X.calm = true) : CallD X (.builtin "sum") cSum := by
  intro pins s σ H xs us Q I r h
  obtain ⟨io, S, ds, d, S', rs, rv, hg, q⟩ := h
  unfold cSum at hg
  split at hg
  · split at hg
    · rename_i es hs
      split at hg
      · rename_i is hi
        cases hg
        obtain ⟨v, rfl, e⟩ := rvs1 rv
        obtain ⟨p, vs, rfl, _, e2, e3⟩ := rs.seq (seq_ref hs) e
        have := ints_V hi e3
        subst this
        exact cr_sum hc pins s σ H _ us Q I r ⟨p, is, rfl, e2, q io H _ Ext.refl rs mInt⟩
      · cases hg
    · cases hg
  · cases hg
theorem c_any (hc : X.calm = true) : CallD X (.builtin "any") cAny := by
  intro pins s σ H xs us Q I r h
  obtain ⟨io, S, ds, d, S', rs, rv, hg, q⟩ := h
  unfold cAny at hg
  split at hg
  · split at hg
    · rename_i es hs
      split at hg
      · rename_i is hi
        cases hg
        obtain ⟨v, rfl, e⟩ := rvs1 rv
        obtain ⟨p, vs, rfl, _, e2, e3⟩ := rs.seq (seq_ref hs) e
        have := bls_V hi e3
        subst this
        exact cr_any hc pins s σ H _ us Q I r ⟨p, is, rfl, e2, q io H _ Ext.refl rs mBl⟩
      · cases hg
    · cases hg
  · cases hg
theorem c_all (hc : X.calm = true) : CallD X (.builtin "all") cAll := by
  intro pins s σ H xs us Q I r h
  obtain ⟨io, S, ds, d, S', rs, rv, hg, q⟩ := h
  unfold cAll at hg
  split at hg
  · split at hg
    · rename_i es hs
      split at hg
      · rename_i is hi
        cases hg
        obtain ⟨v, rfl, e⟩ := rvs1 rv
        obtain ⟨p, vs, rfl, _, e2, e3⟩ := rs.seq (seq_ref hs) e
        have := bls_V hi e3
        subst this
        exact cr_all hc pins s σ H _ us Q I r ⟨p, is, rfl, e2, q io H _ Ext.refl rs mBl⟩
      · cases hg
    · cases hg
  · cases hg
theorem c_sortedS : CallD X (.builtin "sorted") cSortedS := by
  intro pins s σ H xs us Q I r h
  obtain ⟨io, S, ds, d, S', rs, rv, hg, q⟩ := h
  unfold cSortedS at hg
  split at hg
  · split at hg
    · rename_i es hs
      split at hg
      · rename_i is hi
        split at hg
        · rename_i hz
          cases hg
          obtain ⟨v, rfl, e⟩ := rvs1 rv
          obtain ⟨p, vs, rfl, _, e2, e3⟩ := rs.seq (seq_ref hs) e
          have := strs_V hi e3
          subst this
          refine cr_sortedS pins s σ H _ us Q I r ⟨p, is, rfl, e2, hz, fun ys t hp hy ht => ?_⟩
          have := sortS_unique hp hy
          subst this
          exact q _ _ _ (Ext.new ht) (rs.lstNew ht (strsRV _)) (mRef rs.lastNew)
        · cases hg
      · cases hg
    · cases hg
  · cases hg

/-! isinstance with a built-in type -/
def tyN (d : D) (S : Sto) : Option String := match d with
  | .non => some "NoneType"
  | .bl _ => some "bool"
  | .int _ => some "int"
  | .str _ => some "str"
  | .tup _ => some "tuple"
  | .ref n => match S[n]? with
    | some (.lst _) => some "list"
    | some (.rol _) => some "list"
    | some (.dct _) => some "dict"
    | some (.rot _) => none
    | none => none
def dIsi (T : String) (fa : Ev → Sto → Ans D) : Ev → Sto → Ans D := fun env S => bindR (fa env S) fun a S1 => match tyN a S1 with
  | some n => match kitB n T with
    | some b => some (.ok (.bl b), S1)
    | none => none
  | none => none
theorem ty_X {K : PySem.W.Frag} {io : List Addr} {H : Hp} {S : Sto} {d : D} {v : V} {n : String} (rs : RS K io S H) (r : RV K io H d v) (h : tyN d S = some n) : TyX K H v (.type n) := by
  cases d with
  | non => cases h; rw [sNon r]; exact .base .non
  | bl b => cases h; rw [sBl r]; exact .base (.bl _)
  | int b => cases h; rw [sIntII r]; exact .base (.int _)
  | str b => cases h; rw [sStr r]; exact .base (.str _)
  | tup ds =>
    cases h
    unfold RV at r
    obtain ⟨a, vs, rfl, e, _⟩ := r
    rcases e with (e | ⟨o, e⟩) | ⟨o, its, m, e1, e2, _⟩
    · exact .base (.tup e)
    · exact .fTuple e
    · exact .kTuple e1 e2
  | ref m =>
    unfold RV at r
    obtain ⟨a, e1, rfl⟩ := r
    simp only [tyN] at h
    split at h
    · rename_i ds hd
      cases h
      obtain ⟨vs, q1, _⟩ := rs.obj _ _ _ hd e1
      exact .base (.lst q1)
    · rename_i ds hd
      cases h
      obtain ⟨vs, q1, _⟩ := rs.obj _ _ _ hd e1
      rcases q1 with ⟨o, q1⟩ | ⟨o, its, m, k1, k2, _⟩
      · exact .base (.frz q1)
      · exact .kList k1 k2
    · rename_i es hd
      cases h
      obtain ⟨vs, q1, _⟩ := rs.obj _ _ _ hd e1
      exact .base (.dK q1)
    · cases h
    · cases h
theorem d_isi {W : XK} {e : Expr} {T : String} {TN : Str} {p p2 pos : Pos} {fa : Ev → Sto → Ans D} (hg : Gl X "isinstance") (hm : X.mg "isinstance" = none) (hgT : Gl X TN) (hmT : X.mg TN = none) (hT : bootBuiltins TN = some (.type T)) (he : DE X W e fa)
    (hn : TN ≠ "__name__" := by decide) (hdb : (TN == ("__debug__" : Str)) = false := by decide)
    (hs : starEach [e, .Name TN p2] X.env = (false, eval e X.env) :: starEach [.Name TN p2] X.env := by rfl) (hs2 : starEach [.Name TN p2] X.env = (false, eval (.Name TN p2) X.env) :: starEach [] X.env := by rfl) (hpl : (backTo pos (starEach [.Name TN p2] X.env)).any (·.1) = false := by rfl) :
    DE X W (.Call (.Name "isinstance" p) [e, .Name TN p2] [] pos) (dIsi T fa) :=
  pe_weak (pe_callB call_isi hg hm (by decide +kernel) (pa_cons he (pa_cons (pe_bltn (v := .ty T) hgT hmT hT rfl hn hdb) pa_nil hs2) hs) (by decide) (by decide) hs hpl) fun σ H Q ⟨io, S, env, r, S', rs, re, hf, hE⟩ =>
    tG_bind rs re hf hE fun a S1 io1 H1 v e1 rs1 re1 rv1 h1 hE1 => by
      split at h1
      · rename_i n hn
        split at h1
        · rename_i b hb
          cases h1
          exact ⟨v, .ty T, .type n, .type T, b, rfl, .ty T, ty_X rs1 rv1 hn, kit_ty hb, hE1.now rs1 mBl⟩
        · cases h1
      · cases h1

/-! ### methods of built-in types -/
def tyM (T : String) (d : D) (S : Sto) : Bool := match d with
  | .str _ => T == "str"
  | .int _ => T == "int"
  | .ref n => match S[n]? with
    | some (.dct _) => T == "dict"
    | _ => T == "list" && (seqOf (.ref n) S).isSome
  | _ => false
theorem tyM_V {K : PySem.W.Frag} {io : List Addr} {H : Hp} {S : Sto} {d : D} {v : V} {T : String} (rs : RS K io S H) (r : RV K io H d v) (h : tyM T d S = true) : tyV K T v H := by
  cases d with
  | str x => rw [sStr r]; exact beq_iff_eq.mp h
  | int x => rw [sIntII r]; exact beq_iff_eq.mp h
  | ref n =>
    unfold tyM at h
    simp only at h
    split at h
    · rename_i es hn
      obtain ⟨p, kvs, rfl, e0, e1, e2, e3⟩ := rs.dct hn r
      exact .inr (.inr (.inl ⟨beq_iff_eq.mp h, .inl ⟨kvs, e1⟩⟩))
    · simp only [Bool.and_eq_true] at h
      obtain ⟨h1, h2⟩ := h
      obtain ⟨ds, hs⟩ := Option.isSome_iff_exists.mp h2
      obtain ⟨a, vs, rfl, _, e2, _⟩ := rs.seq (seq_ref hs) r
      exact .inl ⟨beq_iff_eq.mp h1, vs, e2⟩
  | _ => cases h
def dM (T : String) (g : D → List D → Sto → Option (D × Sto)) (fo : Ev → Sto → Ans D) (fs : Ev → Sto → Ans (List D)) : Ev → Sto → Ans D := fun env S =>
  bindR (fo env S) fun a S1 => if tyM T a S1 = true then bindR (fs env S1) fun ds S2 => okO (g a ds S2) else none
section
variable {o e : Expr} {es : List Expr} {name : Str} {apos cpos : Pos} {T id : String} {W : XK} {fo : Ev → Sto → Ans D} {fs : Ev → Sto → Ans (List D)} {g : D → List D → Sto → Option (D × Sto)}
theorem d_m0 (pa : PlainAttrs T) (slot : Slot T name id) (hty : typeOf (.builtin id) = pure (.type "method_descriptor")) (hm : MtD X id g) (ho : DE X W o fo)
    (hbase : attributeBase o name X.env (eval o X.env) = eval o X.env := by rfl) (hline : (apos.endLine == cpos.line) = true := by rfl) : DE X W (.Call (.Attribute o name apos) [] [] cpos) (dM T g fo dNil) :=
  pe_weak (pe_bm0 pa slot hty hm ho hbase hline) fun σ H Q ⟨io, S, env, r, S', rs, re, hf, hE⟩ => tG_bind rs re hf hE fun a S1 io1 H1 v e1 rs1 re1 rv1 h1 hE1 => by
    split at h1
    · rename_i ht
      obtain ⟨d, h2, rfl⟩ := okO_some (show okO (g a [] S1) = _ from h1)
      exact ⟨tyM_V rs1 rv1 ht, io1, S1, a, [], d, S', rs1, rv1, RVs.nil, h2, hE1⟩
    · cases h1
theorem d_m (pa : PlainAttrs T) (slot : Slot T name id) (hty : typeOf (.builtin id) = pure (.type "method_descriptor")) (hm : MtD X id g) (ho : DE X W o fo) (ha : DA X W (e :: es) fs)
    (hbase : attributeBase o name X.env (eval o X.env) = eval o X.env := by rfl)
    (hfew : ((backTo cpos (starEach (e :: es) X.env)).all (fun x => !x.1) && (backToKw cpos (keywordEach [] X.env)).all (fun x => x.1.isSome)
      && decide ((e :: es).length + ([] : List Keyword).length + (if ([] : List Keyword).isEmpty then 0 else 1) < 30)) = true := by rfl)
    (hline : (apos.endLine == cpos.line) = true := by rfl) (hs : starEach (e :: es) X.env = (false, eval e X.env) :: starEach es X.env := by rfl) (hplain : (backTo cpos (starEach es X.env)).any (·.1) = false := by rfl) :
    DE X W (.Call (.Attribute o name apos) (e :: es) [] cpos) (dM T g fo fs) :=
  pe_weak (pe_bm pa slot hty hm ho ha hbase hfew hline hs hplain) fun σ H Q ⟨io, S, env, r, S', rs, re, hf, hE⟩ => tG_bind rs re hf hE fun a S1 io1 H1 v e1 rs1 re1 rv1 h1 hE1 => by
    split at h1
    · rename_i ht
      refine ⟨tyM_V rs1 rv1 ht, tG_bind rs1 re1 h1 hE1 fun ds S2 io2 H2 w e2 rs2 re2 rv2 h2 hE2 => ?_⟩
      obtain ⟨d, h2, rfl⟩ := okO_some h2
      exact ⟨io2, S2, a, ds, d, S', rs2, RV.mono e2 _ _ rv1, rv2, by assumption, hE2⟩
    · cases h1
end
def mAppend : D → List D → Sto → Option (D × Sto)
  | .ref n, [d], S => match S[n]? with
    | some (.lst ds) => if ds.length < sizeLine then some (.non, S.set n (.lst (ds ++ [d]))) else none
    | _ => none
  | _, _, _ => none
theorem m_append : MtD X "list.append" mAppend := by
  intro pins s σ H x xs v us Q I rx r h
  obtain ⟨io, S, a, ds, d, S', rs, r1, r2, hg, q⟩ := h
  unfold mAppend at hg
  split at hg
  · split at hg
    · rename_i es hs
      split at hg
      · rename_i hz
        cases hg
        obtain ⟨p, vs, rfl, e1, e2, e3⟩ := rs.lst hs r1
        obtain ⟨w, rfl, r3⟩ := rvs1 r2
        obtain ⟨rs', ex⟩ := rs.write hs e1 (e3.append (RVs.one r3))
        exact mt_append pins s σ H _ _ v us Q I rx r ⟨p, vs, w, rfl, rfl, e2, by rw [← e3.length]; exact hz, q io _ _ ex rs' mNon⟩
      · cases hg
    · cases hg
  · cases hg
def mPop : D → List D → Sto → Option (D × Sto)
  | .ref n, [], S => match S[n]? with
    | some (.lst ds) => match ds[ds.length - 1]? with
      | some d => some (d, S.set n (.lst ds.dropLast))
      | none => none
    | _ => none
  | _, _, _ => none
theorem RVs.dropLast {K : PySem.W.Frag} {io : List Addr} {H : Hp} {ds : List D} {vs : List V} (h : RVs K io H ds vs) : RVs K io H ds.dropLast vs.dropLast := by
  rw [List.dropLast_eq_take, List.dropLast_eq_take, h.length]
  exact h.take _
theorem m_pop : MtD X "list.pop" mPop := by
  intro pins s σ H x xs v us Q I rx r h
  obtain ⟨io, S, a, ds, d, S', rs, r1, r2, hg, q⟩ := h
  unfold mPop at hg
  split at hg
  · split at hg
    · rename_i es hs
      split at hg
      · rename_i d hd
        cases hg
        obtain ⟨p, vs, rfl, e1, e2, e3⟩ := rs.lst hs r1
        have : xs = [] := by simpa [RVs] using r2
        subst this
        obtain ⟨w, w1, w2⟩ := e3.get hd
        obtain ⟨rs', ex⟩ := rs.write hs e1 e3.dropLast
        exact mt_pop pins s σ H _ _ v us Q I rx r ⟨p, vs, w, rfl, rfl, e2, by rw [← e3.length]; exact w1, q io _ _ ex rs' (RV.mono ex _ _ w2)⟩
      · cases hg
    · cases hg
  · cases hg
end
end DL
namespace DL
open PySem PySem.Spec PyProof.Rows L2 RT RZ

/-- the law's own promise -/
def spLaw (K : PySem.W.Frag) : Sp := fun vs H Q _ => ∃ (a : Addr) (ns : List Int), vs = [.ref a] ∧ ns.length ≤ 63 ∧ Only H ∧ SqL K H a (ns.map V.int) ∧ ∀ H', Q (.bl true) H'
theorem intsRV {K : PySem.W.Frag} {io : List Addr} {H : Hp} : ∀ (ns : List Int), RVs K io H (ns.map D.int) (ns.map V.int)
  | [] => RVs.nil
  | n :: ns => RVs.cons mInt (intsRV ns)
theorem spM_law {K : PySem.W.Frag} {mg : Str → Option Value} {m : Mir} {a : Addr} {ns : List Int} {S' : Sto} {H : Hp} {Q : VK} {E : XK} (hm : m [.ref 0] [.rol (ns.map D.int)] = some (.ok (.bl true), S')) (ho : Only H) (hS : SqL K H a (ns.map V.int)) (q : ∀ H', Q (.bl true) H') : spM K mg m [.ref a] H Q E := by
  have hr : ROL K H a (ns.map V.int) := by
    rcases hS with (hS | hS) | hS
    · rcases ho a with z | ⟨o, xs, z⟩
      · rw [z] at hS; cases hS
      · rw [z] at hS; cases hS
    · exact .inl hS
    · exact .inr hS
  refine ⟨[a], [.rol (ns.map D.int)], [.ref 0], _, S', ⟨rfl, fun n o b e1 e2 => ?_, fun m n b o u e1 e2 e3 e4 m1 m2 => ?_⟩, RVs.one (by unfold RV; exact ⟨a, rfl, rfl⟩), hm, fun io' H' v _ _ rv => ?_⟩
  · match n with
    | 0 =>
      cases e1
      cases e2
      exact ⟨_, hr, intsRV ns⟩
    | n + 1 => simp at e1
  · match m with
    | 0 =>
      cases e3
      cases m1
    | m + 1 => simp at e3
  · rw [sBl rv]
    exact q H'
theorem spLaw_imp {K : PySem.W.Frag} {mg : Str → Option Value} {m : Mir} (h : ∀ ns : List Int, ns.length ≤ 63 → ∃ S', m [.ref 0] [.rol (ns.map D.int)] = some (.ok (.bl true), S')) (vs : List V) (H : Hp) (Q : VK) (E : XK) (q : spLaw K vs H Q E) : spM K mg m vs H Q E := by
  obtain ⟨a, ns, rfl, hl, ho, hS, q⟩ := q
  obtain ⟨S', hm⟩ := h ns hl
  exact spM_law hm ho hS q
/-- the same for a law that looks at its numbers: none of them is too great -/
def spLawB (K : PySem.W.Frag) : Sp := fun vs H Q _ => ∃ (a : Addr) (ns : List Int), vs = [.ref a] ∧ ns.length ≤ 63 ∧ (∀ z ∈ ns, Builtin.Int.intBits z ≤ 1048576) ∧ Only H ∧ SqL K H a (ns.map V.int) ∧ ∀ H', Q (.bl true) H'
theorem spLaw_impB {K : PySem.W.Frag} {mg : Str → Option Value} {m : Mir} (h : ∀ ns : List Int, ns.length ≤ 63 → (∀ z ∈ ns, Builtin.Int.intBits z ≤ 1048576) → ∃ S', m [.ref 0] [.rol (ns.map D.int)] = some (.ok (.bl true), S')) (vs : List V) (H : Hp) (Q : VK) (E : XK) (q : spLawB K vs H Q E) : spM K mg m vs H Q E := by
  obtain ⟨a, ns, rfl, hl, hz, ho, hS, q⟩ := q
  obtain ⟨S', hm⟩ := h ns hl hz
  exact spM_law hm ho hS q
/-- a def that can be called, and what it does -/
structure Cal (P : Program) (w : World) (K : PySem.W.Frag) (mg : Str → Option Value) (base : Heap) (x : Str) (k : Nat) (ps : List Str) (m : Mir) : Prop where
  ex : ∃ (a : Addr) (fd : FuncData), FnOk P w K mg base (L2.CX P w) k a fd ps (spM K mg m) ∧ mg x = some (.ref a) ∧ PySem.W.keepIn K (.ref a) = true ∧ Binds K fd ps []
theorem cal_mk {P : Program} {w : World} {K : PySem.W.Frag} {mg : Str → Option Value} {base : Heap} {x q : Str} {st : Stmt} {a : Addr} {fd : FuncData} {k : Nat} {ps : List Str} {m : Mir} (F : Fun K x q st a fd) (g : mg x = some (.ref a)) (h : FnOk P w K mg base (L2.CX P w) k a fd ps (spM K mg m)) (b : Binds K fd ps []) : Cal P w K mg base x k ps m := ⟨a, fd, h, g, F.kp, b⟩
section
variable {X : Cx} {W : XK} {ps : List Str} {k : Nat} {m : Mir} {x : Str} {p pos : Pos} {e : Expr} {es : List Expr} {fs : Ev → Sto → Ans (List D)}
theorem d_cal (C : Cal X.prog X.w X.K X.mg X.base x k ps m) (hr : Room k X.A) (hg : Gl X x) (hx : Passes (L2.CX X.prog X.w) X W) (ha : DA X W (e :: es) fs) (hdb : (x == ("__debug__" : Str)) = false := by decide) (he : starEach (e :: es) X.env = (false, eval e X.env) :: starEach es X.env := by rfl) (hpl : (backTo pos (starEach es X.env)).any (·.1) = false := by rfl) :
    DE X W (.Call (.Name x p) (e :: es) [] pos) (dCall m fs) := by
  obtain ⟨a, fd, F, g, kp, b⟩ := C.ex
  exact d_call F hr hg g kp b hx ha hdb he hpl
theorem d_cal0 (C : Cal X.prog X.w X.K X.mg X.base x k ps m) (hr : Room k X.A) (hg : Gl X x) (hx : Passes (L2.CX X.prog X.w) X W) (hdb : (x == ("__debug__" : Str)) = false := by decide) : DE X W (.Call (.Name x p) [] [] pos) (dCall m dNil) := by
  obtain ⟨a, fd, F, g, kp, b⟩ := C.ex
  exact d_call0 F hr hg g kp b hx hdb
end
theorem passX {P : Program} {w : World} {K : PySem.W.Frag} {mg : Str → Option Value} {base : Heap} {N : List Str} {qual : Str} {scope : Scope} {f : Addr} {cd : Value} {A : Around} {outer : List Env} {s : Shared} {H : Hp} {E : XK} :
    Passes (L2.CX P w) (cxOf (L2.CX P w) P w K mg base N qual scope f cd A outer s H E) E := passes_call (W := fun c d _ H => E c d H) (takes_of rfl rfl rfl rfl) fun _ _ _ _ h => h
theorem cxF {P : Program} {w : World} {o : List Env} {H : Hp} {s : Shared} {e : Value} {s' : Shared} (h : L2.CX P w o H s (fun _ _ _ => False) e s') : False := by
  obtain ⟨_, _, _, _, _, _, _, _, _, _, _, _, z⟩ := h
  exact z
/-! an item of a list for o[i] op= e -/
section
variable {X : Cx}
theorem o_itemL : OpD X getItem gIxL := by
  intro pins s σ H x y v u Q I rx ry h
  obtain ⟨io, S, a, b, d, S', rs, r1, r2, hg, q⟩ := h
  unfold gIxL at hg
  split at hg
  · split at hg
    · rename_i ds hs
      split at hg
      · rename_i e he
        split at hg
        · rename_i h0
          cases hg
          obtain ⟨p, vs, rfl, _, e2, e3⟩ := rs.seq (seq_ref hs) r1
          obtain ⟨w, w1, w2⟩ := e3.at he
          have := sIntII r2
          subst this
          cases rx
          obtain ⟨t, rfl⟩ := ry
          obtain ⟨its, r, pl, hz⟩ := I.list e2
          obtain ⟨j, h1, h2, h3, h4, h5⟩ := atI_get w1
          obtain ⟨u, eu, ru⟩ := r.get h2
          have hn := line63
          rw [seqIndex_of h0 h5] at h1
          have hj := Option.some.inj h1
          exact wpAny_getItem_list pl.isList h0 (by omega) (by rw [hj]; simpa using eu) ⟨w, H, I, ru, q io H _ Ext.refl rs w2⟩
        · cases hg
      · cases hg
    · cases hg
  · cases hg
end
end DL
namespace DL
open PySem PySem.Spec PyProof.Rows L2 RT RZ
def gNeg : D → Sto → Option (D × Sto)
  | .int i, S => some (.int (-i), S)
  | _, _ => none
theorem u_neg {X : Cx} : UnD X (unaryOp .USub) gNeg := by
  intro pins s σ H x v Q I rx h
  obtain ⟨io, S, a, d, S', rs, r1, hg, q⟩ := h
  unfold gNeg at hg
  split at hg
  · cases hg
    exact un_neg pins s σ H x v Q I rx ⟨_, sIntII r1, q io H _ Ext.refl rs mInt⟩
  · cases hg
/-! ### enumerate of a tuple -/
section
open AutoSeq1 (wpAny_loadPart')
theorem meets_enumerate_newT (l : Addr) (items : Array Value) (n : Nat) (dct : Option Addr) (sl : Array (Option Value)) :
    Meets (Builtin.«enumerate.__new__» ⟨[.type "enumerate", .ref l], []⟩) (fun _ R s => s.heap.get? l = some { cls := .type "tuple", dict := dct, data := .seq items n, slots := sl } ∧
      R (.ok (.ret (.ref (s.heap.push { cls := .type "tuple_iterator", data := .fields #[.ref l, .int 0 0] }).objs.size)))
        { s with heap := (s.heap.push { cls := .type "tuple_iterator", data := .fields #[.ref l, .int 0 0] }).push { cls := .type "enumerate", data := .fields #[.none, .bool false, .ref s.heap.objs.size, rawInt 0, .none, .none] } }) :=
  .of_wp fun prog w A R s h => by
    obtain ⟨hp, g, d, tk, os⟩ := s; obtain ⟨hl, h⟩ := h
    have hsub := sub_enumerate
    have hL : Heap.IsTuple (Shared.heap ⟨hp, g, d, tk, os⟩) l items := ⟨_, hl, rfl, n, rfl⟩
    wp_walk using wpAny_loadPart' hl
    refine wpAny_stack_any fun st => wpAny_pure ?_
    split
    · rename_i c _ _ _ _ _
      cases (c == Value.type "enumerate")
      · wp_walk using wpAny_loadPart' hl, wpAny_pyIter_tuple hL
        exact ⟨_, rfl, h⟩
      · wp_walk using wpAny_loadPart' hl, wpAny_pyIter_tuple hL
        exact ⟨_, rfl, h⟩
    · wp_walk using wpAny_loadPart' hl, wpAny_pyIter_tuple hL
      exact ⟨_, rfl, h⟩
section
variable {prog : Program} {w : World} {A : Around} {E : Value → Shared → Prop} {s : Shared}
theorem call_enumerate_tuple {l : Addr} {items : Array Value} {Q : Value → Shared → Prop} (hL : s.heap.IsTuple l items)
    (h : ∀ h', IsEnum h' (s.heap.objs.size + 1) s.heap.objs.size 0 .none → h'.IsTupleIter s.heap.objs.size l 0 → h'.objs.size = s.heap.objs.size + 2 →
      (∀ b o, s.heap.get? b = some o → h'.get? b = some o) → Q (.ref (s.heap.objs.size + 1)) { s with heap := h' }) :
    wpAny (model prog w) A (call (.type "enumerate") [.ref l]) Q E s := by
  obtain ⟨⟨c, dct, dt, sl⟩, hl, hc, n, hd⟩ := hL
  replace hc : c = .type "tuple" := hc
  replace hd : dt = .seq items n := hd
  subst hc hd
  refine callType_new F.called_enumerate (by decide) (F.typeCall_enumerate_1 _) (F.newCall_enumerate_1 _) (fun obj => F.args_object_init_2 obj _) F.entry_enumerate_new
    (meets_enumerate_newT l items n dct sl) ⟨hl, ?_⟩
  have hz : (s.heap.push { cls := .type "tuple_iterator", data := .fields #[.ref l, .int 0 0] }).objs.size = s.heap.objs.size + 1 := Heap.size_push ..
  show _ ∧ _
  rw [hz]
  have he : IsEnum ((s.heap.push { cls := .type "tuple_iterator", data := .fields #[.ref l, .int 0 0] }).push
      { cls := .type "enumerate", data := .fields #[.none, .bool false, .ref s.heap.objs.size, rawInt 0, .none, .none] }) (s.heap.objs.size + 1) s.heap.objs.size 0 .none := by
    have := Heap.get?_push_size (s.heap.push { cls := .type "tuple_iterator", data := .fields #[.ref l, .int 0 0] })
      (o := { cls := .type "enumerate", data := .fields #[.none, .bool false, .ref s.heap.objs.size, rawInt 0, .none, .none] }) rfl
    rw [hz] at this; exact this
  refine ⟨⟨_, he, rfl⟩, h _ he ⟨_, Heap.get?_push_of_some _ (Heap.get?_push_size _ rfl), rfl, rfl⟩ (by rw [Heap.size_push, hz]) fun b o x => Heap.get?_push_of_some _ (Heap.get?_push_of_some _ x)⟩
end
end
/-- the tuple at a, each item in a new pair -/
def IteT (K : PySem.W.Frag) (a : Addr) : It :=
  ⟨fun i H => ∃ (xs : List V) (x : V), SqT K H a xs ∧ xs[i]? = some x, fun i H v H' => ∃ T x, v = .ref T ∧ H T = none ∧ H' = upd H T (.tup [.int (i : Nat), x]) ∧ ∀ xs, SqT K H a xs → xs[i]? = some x, fun i H => ∃ xs : List V, SqT K H a xs ∧ xs.length ≤ i⟩
theorem turn_enumT {P : Program} {w : World} {K : PySem.W.Frag} {elts : List Expr} {kk : Nat} {tpos : Pos} (a e it : Addr) :
    Turn P w K (.Tuple elts kk tpos) (IteT K a) [e, it] e (fun i h => (∃ old, IsEnum h e it ((i : Nat) : Int) old) ∧ h.IsTupleIter it a i ∧ e ≠ it) where
  mem := by simp
  obj := fun i h st b hb => by
    obtain ⟨⟨old, he⟩, ⟨o, ho, hc, hd⟩, _⟩ := st
    have e' : b = e ∨ b = it := by simpa using hb
    rcases e' with z | z
    · rw [z]; exact ⟨_, he, fun v q => nomatch q⟩
    · rw [z]; exact ⟨o, ho, fun v q => by rw [hd] at q; cases q⟩
  keep := fun i h h' st k => let ⟨⟨old, he⟩, hi, hne⟩ := st; ⟨⟨old, k e (by simp) _ he⟩, hi.at fun o q => k it (by simp) o q, hne⟩
  item := by
    intro X hP hw hK hc i pins s σ H E I hf st hg
    subst hP hw hK
    obtain ⟨⟨old, he⟩, hit, hne⟩ := st
    obtain ⟨xs, x, hq, hx⟩ := hg
    obtain ⟨its, rv, p, hz⟩ := I.tuple hq
    obtain ⟨u, hu, ru⟩ := rv.get hx
    have hel : e < s.heap.objs.size := Heap.lt_size he
    have hil : it < s.heap.objs.size := by obtain ⟨_, q, _⟩ := hit; exact Heap.lt_size q
    have nai : a ≠ it := fun z => by
      obtain ⟨o1, h1, c1, _⟩ := hit
      obtain ⟨o2, h2, c2, _⟩ := p
      rw [z, h1] at h2
      cases h2
      rw [c1] at c2
      exact absurd c2 (by decide)
    have nea : e ≠ a := fun z => by
      obtain ⟨o2, h2, c2, _⟩ := p
      rw [← z, he] at h2
      cases h2
      have c3 : Value.type "enumerate" = Value.type "tuple" := c2
      exact absurd c3 (by decide)
    have D : Draws X.prog X.w X.A.in1 it [it, a] its.toArray.size (fun i v => its.toArray[i]? = some v) (fun i h => h.IsTupleIter it a i ∧ h.IsTuple a its.toArray) := Draws.tuple (A := X.A.in1) (I.ok.hd hc) it a nai its.toArray
    have hu' : its.toArray[i]? = some u := by simpa using hu
    refine wpAny_pyNext_enum_itemD D he ⟨hit, p⟩ (Array.getElem?_eq_some_iff.mp hu').1 hne (by simp [hne, nea]) fun u' h' tk hu2 ho hit' hT hsz hk => ?_
    rw [hu'] at hu2
    cases hu2
    refine ⟨_, rfl, wpAny_letOwnedTupleGo_enum (s := { s with heap := h', toks := tk + 1 }) ho fun h'' he' sb => ?_⟩
    have hT2 : h''.get? s.heap.objs.size = some { cls := .type "tuple", data := .seq #[.int i tk, u] } := (sb.2 _ (Nat.ne_of_gt hel)).trans hT
    have new : ObjOk X.prog X.w (upd H s.heap.objs.size (.tup [.int (i : Nat), x])) h'' s.heap.objs.size (.tup [.int (i : Nat), x]) :=
      ⟨by show 2 ≤ sizeLine; decide, [.int i tk, u], .cons ⟨_, rfl⟩ (.cons ru .nil), ⟨_, hT2, rfl, _, rfl⟩⟩
    have I1 : Inv X pins σ (upd H s.heap.objs.size (.tup [.int (i : Nat), x])) { s with heap := h'', toks := tk + 1 } :=
      I.turnedNew (ch := [e, it]) (fun b ob hb q => (sb.2 b (fun z => hb (by simp [z]))).trans (hk b ob (fun z => hb (by simp [z])) (fun z => hb (by simp [z])) q)) hf (Nat.le_refl _) new
    refine ⟨.ref s.heap.objs.size, _, I1, rfl, ⟨_, x, rfl, I.hok.fresh (Nat.le_refl _), rfl, fun ys hy => by rw [I.tuple_inj hy hq]; exact hx⟩, ⟨⟨u, ?_⟩, hit'.1.at fun o q => (sb.2 it (Ne.symm hne)).trans q, hne⟩, fun b hb => ?_⟩
    · have e1 : ((i + 1 : Nat) : Int) = (i : Int) + 1 := by omega
      rw [e1]; exact he'
    · have hb' : b < s.heap.objs.size := by
        have e' : b = e ∨ b = it := by simpa using hb
        rcases e' with z | z
        · rw [z]; exact hel
        · rw [z]; exact hil
      rw [upd_ne (Nat.ne_of_lt hb')]
      exact (hf b hb).1
  done := by
    intro X hP hw hK hc i pins s σ H E I hf st hg
    subst hP hw hK
    obtain ⟨⟨old, he⟩, hit, hne⟩ := st
    obtain ⟨xs, hq, hx⟩ := hg
    obtain ⟨its, rv, p, hz⟩ := I.tuple hq
    obtain ⟨f0, f1, f2, f3, f4, f5⟩ := hf it (by simp)
    have hl := rv.length
    have nai : a ≠ it := fun z => by
      obtain ⟨o1, h1, c1, _⟩ := hit
      obtain ⟨o2, h2, c2, _⟩ := p
      rw [z, h1] at h2
      cases h2
      rw [c1] at c2
      exact absurd c2 (by decide)
    have hend : its.toArray[i]? = none := by simp; omega
    have hT : s.TypeIs (.ref e) "enumerate" := ⟨_, he, rfl⟩
    unfold pyNext
    refine wpAny_bind (wpAny_attempt (wpAny_callSpecial?_slot (name := Str.ofString "__next__") hT F.slot_enumerate_next
      (wpAny_call_entry F.slot_enumerate_next hT F.entry_enumerate_next ?_ (F.args_enumerate_next_1 _))))
    show wpAny _ _ (field (.ref e) 2 >>= _) _ _ _
    refine wpAny_bind (wpAny_field he rfl (x := .ref it) rfl ?_)
    refine wpAny_bind (wpAny_nextOf_tuple_end (I.ok.hd hc) hit p hend fun h' x eb hx' => ?_)
    obtain ⟨o, ho, hc⟩ := hx'
    refine wpAny_bind (wpAny_isInstance (T := "StopIteration") (b := true) ⟨o, ho, hc⟩ isSubtype_stop ?_)
    exact wpAny_pure ⟨rfl, I.turned (t' := s.toks) (fun b o hb q => eb b o hb q) f0 f1 f3 f4 f5⟩
  self := fun A i s Q E st h => let ⟨⟨_, he⟩, _⟩ := st; wpAny_pyIter_enum he h
def iEnumT (K : PySem.W.Frag) (ta : TA) : TI := fun σ H R => ta σ H fun vs H1 => ∃ a xs, vs = [.ref a] ∧ SqT K H1 a xs ∧ R (IteT K a) H1
theorem pi_enumT {X : Cx} {e : Expr} {ta : TA} {p pos tpos : Pos} {elts : List Expr} {kk : Nat} (hg : Gl X "enumerate") (hm : X.mg "enumerate" = none) (ha : PA X [e] ta) (hs : starEach [e] X.env = [(false, eval e X.env)] := by rfl) :
    PI X (.Tuple elts kk tpos) (.Call (.Name "enumerate" p) [e] [] pos) (iEnumT X.K ta) := by
  refine ⟨fun pins s σ H R I h => ?_⟩
  refine Call_ (ld_blt I hg hm boot_enumerate (PyProof.Rows.callWith_type1 (thn (ha.run pos pins s σ H _ I h) fun us s1 ⟨vs, H1, I1, r1, q1⟩ => ?_) hs rfl))
  obtain ⟨a, xs, ex, hq, q⟩ := q1
  subst ex
  cases r1 with
  | cons r rr =>
    cases rr
    cases r
    obtain ⟨its, rv, p', hz⟩ := I1.tuple hq
    refine call_enumerate_tuple p' fun h' he hit hsz hk => wpAny_pyIter_enum he ?_
    have I2 : Inv X pins σ H1 { s1 with heap := h' } := I1.kept (t' := s1.toks) hk
    refine ⟨s1.heap.objs.size + 1, [s1.heap.objs.size + 1, s1.heap.objs.size], _, _, H1, rfl, I2, turn_enumT a (s1.heap.objs.size + 1) s1.heap.objs.size, ⟨⟨.none, he⟩, hit, Nat.succ_ne_self _⟩, fun b hb => ?_, q⟩
    have e' : b = s1.heap.objs.size + 1 ∨ b = s1.heap.objs.size := by simpa using hb
    have hle : s1.heap.objs.size ≤ b := by
      rcases e' with z | z
      · rw [z]; exact Nat.le_add_right _ _
      · rw [z]; exact Nat.le_refl _
    exact I1.fpOk hle (I1.hok.fresh hle)
theorem ItOk.enumT {K : PySem.W.Frag} {io : List Addr} {H : Hp} {a : Addr} {vs : List V} {ds : List D} (ok : Sto → Prop) (ha : SqT K H a vs) (hd : RVs K io H ds vs) : ItOk K io H ⟨ok, enumD ds⟩ (IteT K a) := fun i io' S' H' ex rs _ => by
  have e3 := ex.tup a vs ha
  have e4 := RVs.mono ex ds vs hd
  refine ⟨fun hi => ⟨vs, e3, by rw [← e4.length]; simpa [enumD] using hi⟩, fun x hx => ?_⟩
  have hx0 : (enumD ds)[i]? = some x := hx
  unfold enumD at hx0
  rw [List.getElem?_map, List.getElem?_zipIdx] at hx0
  cases hd : ds[i]? with
  | none => rw [hd] at hx0; cases hx0
  | some d =>
    rw [hd] at hx0
    cases hx0
    obtain ⟨v, h1, h2⟩ := e4.get hd
    refine ⟨⟨vs, v, e3, h1⟩, fun w H2 hy => ?_⟩
    obtain ⟨T, x, rfl, hT, rfl, hy⟩ := hy
    have := hy vs e3
    rw [h1] at this
    cases this
    refine ⟨io', Ext.fresh hT, rs.tupNew hT, ?_⟩
    have := tup2 (K := K) (a := .int ((i : Nat) : Int)) (x := .int ((i : Nat) : Int)) hT (by simp [RV]) h2
    simpa using this
def wEnumA (fs : Ev → Sto → Ans (List D)) : Ev → Sto → Ans Wk := fun env S => bindR (fs env S) fun ds S1 => match ds with
  | [d] => match seqOf d S1 with
    | some xs => some (.ok ⟨fun S => seqOf d S = some xs, enumD xs⟩, S1)
    | none => none
  | _ => none
section
variable {X : Cx} {W : XK} {e : Expr} {fs : Ev → Sto → Ans (List D)} {p pos tpos : Pos} {elts : List Expr} {kk : Nat}
/-- a list or a tuple -/
theorem di_enumA (hg : Gl X "enumerate") (hm : X.mg "enumerate" = none) (ha : DA X W [e] fs) (hf1 : ∀ env S ds S', fs env S = some (.ok ds, S') → ds.length = 1) (hs : starEach [e] X.env = [(false, eval e X.env)] := by rfl) : DI X W (.Tuple elts kk tpos) (.Call (.Name "enumerate" p) [e] [] pos) (wEnumA fs) :=
  pi_weak (pi_or (pi_enum hg hm ha hs) (pi_enumT hg hm ha hs)) fun σ H R ⟨io, S, env, r, S', rs, re, hf, hE⟩ => by
    unfold wEnumA at hf
    cases hd : fs env S with
    | none => rw [hd] at hf; cases hf
    | some q =>
      obtain ⟨ra, S1⟩ := q
      cases ra with
      | ex x =>
        rw [hd] at hf
        cases hf
        exact .inl ⟨io, S, env, _, _, rs, re, hd, hE⟩
      | ok ds =>
        obtain ⟨d, rfl⟩ := one_of (hf1 _ _ _ _ hd)
        by_cases ht : isTup d = true
        · refine .inr (tG_bind2 rs re hf hE fun d' S1' io1 H1 v hd' e1 rs1 re1 rv1 h1 hE1 => ?_)
          rw [hd] at hd'
          cases hd'
          obtain ⟨v, rfl, rv2⟩ := rvs1 rv1
          cases d with
          | tup ds =>
            unfold RV at rv2
            obtain ⟨a, vs, rfl, e2, e3⟩ := rv2
            cases h1
            exact ⟨a, vs, rfl, e2, hE1.now rs1 (ItOk.enumT _ e2 e3)⟩
          | _ => cases ht
        · refine .inl (tG_bind2 rs re hf hE fun d' S1' io1 H1 v hd' e1 rs1 re1 rv1 h1 hE1 => ?_)
          rw [hd] at hd'
          cases hd'
          obtain ⟨v, rfl, rv2⟩ := rvs1 rv1
          cases d with
          | ref n =>
            cases hs : seqOf (.ref n) S1 with
            | none => simp only [hs] at h1; cases h1
            | some xs =>
              simp only [hs] at h1
              cases h1
              obtain ⟨a, vs, rfl, e2, e3, e4⟩ := rs1.seq (seq_ref hs) rv2
              exact ⟨a, vs, rfl, e3, hE1.now rs1 (ItOk.enum e2)⟩
          | tup _ => exact absurd rfl ht
          | _ => cases h1
end
/-! recursion: a chain of computations -/
theorem cal_none {P : Program} {w : World} {K : PySem.W.Frag} {mg : Str → Option Value} {base : Heap} {x q : Str} {st : Stmt} {a : Addr} {fd : FuncData} {k : Nat} {ps : List Str} (F : Fun K x q st a fd) (g : mg x = some (.ref a)) (b : Binds K fd ps []) : Cal P w K mg base x k ps (fun _ _ => none) :=
  ⟨a, fd, ⟨(fun _ _ _ _ h => by obtain ⟨_, _, _, _, _, _, _, h, _⟩ := h; cases h), (fun _ _ _ _ _ _ _ _ _ _ _ _ _ h => by obtain ⟨_, _, _, _, _, _, _, h, _⟩ := h; cases h)⟩, g, F.kp, b⟩
theorem cal_rec {P : Program} {w : World} {K : PySem.W.Frag} {mg : Str → Option Value} {base : Heap} {x : Str} {ps : List Str} {G : Mir → Mir} {Fn : Nat → Mir} {b : Nat} (h0 : Cal P w K mg base x (b + 0) ps (fun _ _ => none)) (hs : ∀ n m, Cal P w K mg base x (b + n) ps m → Cal P w K mg base x (b + n + 1) ps (G m)) (e0 : Fn 0 = fun _ _ => none) (e : ∀ n, Fn (n + 1) = G (Fn n)) : ∀ n, Cal P w K mg base x (b + n) ps (Fn n)
  | 0 => by
    rw [e0]
    exact h0
  | n + 1 => by
    rw [e n]
    exact hs n _ (cal_rec h0 hs e0 e n)
end DL
namespace DL
open PySem PySem.Spec PyProof.Rows L2 RT RZ
/-! ### defaults and keywords -/
abbrev DK (X : Cx) (W : XK) (ks : List Keyword) (f : Ev → Sto → Ans (List D)) : Prop := PK X ks (tMA X.K X.mg W f)
theorem pk_weak {X : Cx} {ks : List Keyword} {t t' : TA} (h : PK X ks t) (w : ∀ σ H Q, t' σ H Q → t σ H Q) : PK X ks t' := ⟨fun pos pins s σ H Q I q => h.run pos pins s σ H Q I (w σ H Q q)⟩
section
variable {X : Cx} {W : XK} {e : Expr} {es : List Expr} {fa : Ev → Sto → Ans D} {fs fk : Ev → Sto → Ans (List D)} {ks : List Keyword} {nm : Option Str} {kpos : Pos}
theorem dk_nil : DK X W [] dNil := pk_weak pk_nil fun σ H Q ⟨io, S, env, r, S', rs, re, hf, hE⟩ => by
  cases hf
  exact hE.now rs RVs.nil
theorem dk_cons (ha : DE X W e fa) (hr : DK X W ks fk) : DK X W (⟨nm, e, kpos⟩ :: ks) (dCons fa fk) :=
  pk_weak (pk_cons ha hr) fun σ H Q ⟨io, S, env, r, S', rs, re, hf, hE⟩ =>
    tG_bind rs re hf hE fun x S1 io1 H1 v e1 rs1 re1 rv1 h1 hE1 => tG_bind rs1 re1 h1 hE1 fun y S2 io2 H2 w e2 rs2 re2 rv2 h2 hE2 => by
      cases h2
      exact hE2.now rs2 (RVs.cons (RV.mono e2 x v rv1) rv2)
end
theorem RVs.app {K : PySem.W.Frag} {io : List Addr} {H : Hp} : ∀ {ds es : List D} {vs us : List V}, RVs K io H ds vs → RVs K io H es us → RVs K io H (ds ++ es) (vs ++ us)
  | [], _, vs, _, h, g => by
    have := h.length
    simp at this
    rw [List.eq_nil_of_length_eq_zero this.symm]
    exact g
  | d :: ds, _, vs, _, h, g => by
    unfold RVs at h
    obtain ⟨v, r, rfl, h1, h2⟩ := h
    exact RVs.cons h1 (RVs.app h2 g)
/-- a def called with its last parameters by default -/
structure CalD (P : Program) (w : World) (K : PySem.W.Frag) (mg : Str → Option Value) (base : Heap) (x : Str) (k : Nat) (ps : List Str) (m : Mir) (dd : List D) : Prop where
  ex : ∃ (a : Addr) (fd : FuncData) (ds : List Value) (dvs : List V), FnOk P w K mg base (L2.CX P w) k a fd ps (spM K mg m) ∧ mg x = some (.ref a) ∧ PySem.W.keepIn K (.ref a) = true ∧ Binds K fd ps ds ∧ Vals dvs ds ∧ ∀ io H, RVs K io H dd dvs
/-- a def called with its last parameters by keyword -/
structure CalK (P : Program) (w : World) (K : PySem.W.Frag) (mg : Str → Option Value) (base : Heap) (x : Str) (k : Nat) (ps : List Str) (m : Mir) (n : Nat) (ks : List Str) : Prop where
  ex : ∃ (a : Addr) (fd : FuncData), FnOk P w K mg base (L2.CX P w) k a fd ps (spM K mg m) ∧ mg x = some (.ref a) ∧ PySem.W.keepIn K (.ref a) = true ∧ KBn K fd ps n ks (fun us ws => us ++ ws) (fun vs zs => vs ++ zs)
def dCallD (m : Mir) (dd : List D) (fs : Ev → Sto → Ans (List D)) : Ev → Sto → Ans D := fun env S => bindR (fs env S) fun ds S1 => m (ds ++ dd) S1
def dCallK (m : Mir) (n k : Nat) (fs fk : Ev → Sto → Ans (List D)) : Ev → Sto → Ans D := fun env S => bindR (fs env S) fun ds S1 => bindR (fk env S1) fun es S2 => if ds.length = n ∧ es.length = k then m (ds ++ es) S2 else none
section
variable {X : Cx} {W : XK} {ps ks : List Str} {k n : Nat} {m : Mir} {dd : List D} {x : Str} {p pos : Pos} {e : Expr} {es : List Expr} {kws : List Keyword} {fs fk : Ev → Sto → Ans (List D)}
theorem d_calD (C : CalD X.prog X.w X.K X.mg X.base x k ps m dd) (hr : Room k X.A) (hg : Gl X x) (hx : Passes (L2.CX X.prog X.w) X W) (ha : DA X W (e :: es) fs) (hdb : (x == ("__debug__" : Str)) = false := by decide) (he : starEach (e :: es) X.env = (false, eval e X.env) :: starEach es X.env := by rfl) (hpl : (backTo pos (starEach es X.env)).any (·.1) = false := by rfl) :
    DE X W (.Call (.Name x p) (e :: es) [] pos) (dCallD m dd fs) := by
  obtain ⟨a, fd, ds, dvs, F, g, kp, b, rd, rr⟩ := C.ex
  exact pe_weak (pe_call F hr hg g kp b rd hx ha hdb he hpl) fun σ H Q ⟨io, S, env, r, S', rs, re, hf, hE⟩ =>
    tG_bind rs re hf hE fun ds S1 io1 H1 v e1 rs1 re1 rv1 h1 hE1 => ⟨io1, S1, ds ++ dd, r, S', rs1, rv1.app (rr io1 H1), h1, hE1⟩
theorem d_calK (C : CalK X.prog X.w X.K X.mg X.base x k ps m n ks) (hr : Room k X.A) (hg : Gl X x) (hx : Passes (L2.CX X.prog X.w) X W) (ha : DA X W (e :: es) fs) (hkw : DK X W kws fk)
    (hall : (backToKw pos (keywordEach kws X.env)).all (·.1.isSome) = true := by rfl) (hks : (backToKw pos (keywordEach kws X.env)).filterMap (·.1) = ks := by rfl)
    (hdb : (x == ("__debug__" : Str)) = false := by decide) (he : starEach (e :: es) X.env = (false, eval e X.env) :: starEach es X.env := by rfl) (hpl : ((backTo pos (starEach (e :: es) X.env)).any (·.1) || (backToKw pos (keywordEach kws X.env)).any (·.1.isNone)) = false := by rfl) :
    DE X W (.Call (.Name x p) (e :: es) kws pos) (dCallK m n ks.length fs fk) := by
  obtain ⟨a, fd, F, g, kp, b⟩ := C.ex
  exact pe_weak (pe_callN F hr hg g kp b hx ha hkw hall hks hdb he hpl) fun σ H Q ⟨io, S, env, r, S', rs, re, hf, hE⟩ =>
    tG_bind rs re hf hE fun ds S1 io1 H1 v e1 rs1 re1 rv1 h1 hE1 => tG_bind rs1 re1 h1 hE1 fun zs S2 io2 H2 w e2 rs2 re2 rv2 h2 hE2 => by
      split at h2
      · rename_i hl
        have rv1' := RVs.mono e2 _ _ rv1
        exact ⟨by rw [← rv1'.length]; exact hl.1, by rw [← rv2.length]; exact hl.2, ⟨io2, S2, ds ++ zs, r, S', rs2, rv1'.app rv2, h2, hE2⟩⟩
      · cases h2
end
/-- a def whose keyword-only parameters have one and the same kind of default: it stands as a def with defaults -/
theorem funD_mk {K : PySem.W.Frag} {x : Str} {st : Stmt} {a D T : Addr} {oc doc pm cd ct : Value} {od an : Option Addr} {sl : Array (Option Value)} {y : Str} (l : K.lookup a = some ⟨oc, od, .func (PySem.W.fnOf x x (defArgs st) (defBody st) (defScope st) .none (.ref D) doc pm an cd ct), sl⟩) (c : PySem.W.codeIn K cd x = true) (k : PySem.W.keepIn K (.ref a) = true) (n : PySem.W.nsIn K D y = some (some (.ref T))) :
    FunD K x x (defArgs st) (defBody st) (defScope st) [] [(y, V.ref T)] a (PySem.W.fnOf x x (defArgs st) (defBody st) (defScope st) .none (.ref D) doc pm an cd ct) :=
  ⟨⟨oc, od, .none, .ref D, doc, pm, an, cd, ct, sl, rfl, l, c, .inl ⟨rfl, rfl⟩, .inr ⟨D, rfl, fun q hq => by
    simp only [List.mem_singleton] at hq
    subst hq
    exact ⟨_, n, rfl⟩⟩⟩, k⟩
/-- the empty tuple that stands behind the top -/
theorem unit_RV {K : PySem.W.Frag} {T : Addr} {od : Option Addr} {n : Nat} {sl : Array (Option Value)} (l : K.lookup T = some ⟨.type "tuple", od, .seq #[] n, sl⟩) (io : List Addr) (H : Hp) : RVs K io H [.tup []] [V.ref T] := RVs.one (by
  unfold RV
  exact ⟨T, [], rfl, .inr ⟨_, _, _, l, rfl, rfl, Nat.zero_le _, .nil⟩, RVs.nil⟩)
theorem calD_mk {P : Program} {w : World} {K : PySem.W.Frag} {mg : Str → Option Value} {base : Heap} {x : Str} {st : Stmt} {a D T : Addr} {oc doc pm cd ct : Value} {od an od2 : Option Addr} {sl sl2 : Array (Option Value)} {y : Str} {k n2 : Nat} {ps : List Str} {m : Mir}
    (l : K.lookup a = some ⟨oc, od, .func (PySem.W.fnOf x x (defArgs st) (defBody st) (defScope st) .none (.ref D) doc pm an cd ct), sl⟩) (c : PySem.W.codeIn K cd x = true) (kp : PySem.W.keepIn K (.ref a) = true) (n : PySem.W.nsIn K D y = some (some (.ref T))) (lT : K.lookup T = some ⟨.type "tuple", od2, .seq #[] n2, sl2⟩)
    (g : mg x = some (.ref a)) (h : FnOk P w K mg base (L2.CX P w) k a (PySem.W.fnOf x x (defArgs st) (defBody st) (defScope st) .none (.ref D) doc pm an cd ct) ps (spM K mg m)) {j : Nat} (hn : j + 1 = ps.length)
    (hb : ∀ (D : Addr) (doc pm : Value) (an : Option Addr) (cdv ct : Value) (us ks : List Value), us.length = j → ks.length = 1 → KwChain D ([y].zip ks) (bindArgs (PySem.W.fnOf x x (defArgs st) (defBody st) (defScope st) .none (.ref D) doc pm an cdv ct) ⟨us, []⟩) (ps.zip (us ++ ks))) : CalD P w K mg base x k ps m [.tup []] := by
  obtain ⟨ds, r, b⟩ := FunD.binds0 (ps := ps) (funD_mk l c kp n) j (by simp) hn hb
  exact ⟨a, _, ds, _, h, g, kp, b, r, unit_RV lT⟩
theorem calK_mk {P : Program} {w : World} {K : PySem.W.Frag} {mg : Str → Option Value} {base : Heap} {x : Str} {st : Stmt} {a : Addr} {kV doc pm cd ct : Value} {an : Option Addr} {k j : Nat} {ps ks : List Str} {m : Mir} (kp : PySem.W.keepIn K (.ref a) = true)
    (g : mg x = some (.ref a)) (h : FnOk P w K mg base (L2.CX P w) k a (PySem.W.fnOf x x (defArgs st) (defBody st) (defScope st) .none kV doc pm an cd ct) ps (spM K mg m))
    (hb : ∀ us ws : List Value, us.length = j → ws.length = ks.length → bindArgs (PySem.W.fnOf x x (defArgs st) (defBody st) (defScope st) .none kV doc pm an cd ct) ⟨us, ks.zip ws⟩ = pure (ps.zip (us ++ ws))) : CalK P w K mg base x k ps m j ks :=
  ⟨a, _, h, g, kp, ⟨fun s us ws _ l1 l2 => .of_eq (hb us ws l1 l2), fun r1 r2 => r1.append r2⟩⟩
end DL

/-! sets of texts, as far as sorted(set(..)) asks -/
namespace SX
open PySem PySem.Spec PyProof.Rows L2
variable {P : Program} {w : World}
abbrev kS (P : Program) (w : World) := PySem.strKind P w
def txt (e : Int × Value) : Str := match e.2 with
  | .str x _ => x
  | _ => Str.empty
def OkE (w : World) (e : Int × Value) : Prop := ∃ x tk, e.2 = Value.str x tk ∧ e.1 = hashStr w x
/-- at a: a set with the members that S tells, n of them -/
def St (w : World) (h : Heap) (a : Addr) (S : Str → Bool) (n : Nat) : Prop :=
  ∃ o es ep t, h.get? a = some o ∧ o.ExactSet ∧ o.data = .set es ep t ∧ (∀ e ∈ es.toList, OkE w e) ∧ (es.toList.map txt).Nodup ∧ (∀ x, S x = true ↔ x ∈ es.toList.map txt) ∧
    es.size < scanBound ∧ t.fits es.size = true ∧ es.size = n ∧ Ris t.place.toList ∧ (w.params.followText "set-order" = true ∨ t.led = true)
theorem St.at {h h' : Heap} {a : Addr} {S : Str → Bool} {n : Nat} (R : St w h a S n) (k : ∀ o, h.get? a = some o → h'.get? a = some o) : St w h' a S n := by
  obtain ⟨o, es, ep, t, ho, r⟩ := R
  exact ⟨o, es, ep, t, k o ho, r⟩
theorem St.congr {h : Heap} {a : Addr} {S S' : Str → Bool} {n : Nat} (R : St w h a S n) (e : ∀ x, S' x = S x) : St w h a S' n := by
  rw [show S' = S from funext e]
  exact R
theorem is_str (x : Str) (tk : Tok) : (kS P w).is x (.str x tk) = true := by
  show Value.isStrOf x (.str x tk) = true
  simp [Value.isStrOf]
theorem ok_is {e : Int × Value} (g : OkE w e) (x : Str) : (kS P w).is x e.2 = true ↔ txt e = x := by
  obtain ⟨y, tk, h1, _⟩ := g
  unfold txt
  rw [h1]
  show Value.isStrOf x (.str y tk) = true ↔ y = x
  simp [Value.isStrOf]
theorem ok_elems {l : List (Int × Value)} (g : ∀ e ∈ l, OkE w e) : ElemsOf (kS P w) l := fun e he => by
  obtain ⟨y, tk, h1, h2⟩ := g e he
  exact ⟨⟨y, by rw [h1]; exact is_str y tk, h2⟩, by rw [h1]; rfl⟩
theorem ok_mem {l : List (Int × Value)} (g : ∀ e ∈ l, OkE w e) (x : Str) : x ∈ l.map txt ↔ ∃ e ∈ l, (kS P w).is x e.2 = true := by
  rw [List.mem_map]
  exact ⟨fun ⟨e, he, q⟩ => ⟨e, he, (ok_is (g e he) x).2 q⟩, fun ⟨e, he, q⟩ => ⟨e, he, (ok_is (g e he) x).1 q⟩⟩
section
variable {A : Around} {E : Value → Shared → Prop} {s : Shared} {a : Addr} {S : Str → Bool} {n : Nat}
theorem quiet_if {Q : Unit → Shared → Prop} (b : Bool) (h : Q () s) : wpAny (model P w) A (match b with | true => rule "set.scan.the-table-gave-way" | false => pure ()) Q E s := by
  cases b
  · exact wpAny_pure h
  · exact wpAny_rule h
/-- the end of an add -/
theorem add_end {g : Bool → Sem Unit} (hg : ∀ (b : Bool) (z : Shared) (Q : Unit → Shared → Prop), Q () z → wpAny (model P w) A (g b) Q E z)
    {o : Obj} {es es1 : Array (Int × Value)} {ep : Nat} {t t2 : SetTable} {S' : Str → Bool} (ho : s.heap.get? a = some o) (hex : o.ExactSet) (hd : o.data = .set es ep t)
    (g1 : ∀ e ∈ es1.toList, OkE w e) (nd1 : (es1.toList.map txt).Nodup) (m1 : ∀ x, S' x = true ↔ x ∈ es1.toList.map txt) (hb1 : es1.size < scanBound) (hf2 : t2.fits es1.size = true) (hr : Ris t2.place.toList) (hl : w.params.followText "set-order" = true ∨ t2.led = true)
    {dm : Bool} {R : Option Bool → Shared → Prop} (hR : ∀ h', Heap.SameBut a s.heap h' → St w h' a S' es1.size → R (some true) { s with heap := h' }) :
    wpAny (model P w) A (do
        storeSet a es1 t2
        if (!dm && t2.tooFull) = true then do
            g (relayAll t2 es1 (SetTable.grown es1.size)).2.2
            storeSet a (relayAll t2 es1 (SetTable.grown es1.size)).1 (relayAll t2 es1 (SetTable.grown es1.size)).2.1
            pure (some true)
          else pure (some true)) R E s := by
  refine wpAny_bind (wpAny_storeSet_of ho hd ?_ (fits_of_scanBound hb1))
  have o1 := store_at (es' := es1) (t' := t2) ho hd
  have k1 := Heap.SameBut.update s.heap a (Obj.putSet es1 t2)
  split
  · have p3 := relayAll_perm t2 es1 (SetTable.grown es1.size)
    have f3 := relayAll_fits t2 es1 (SetTable.grown es1.size)
    have r3 := relayAll_ris t2 es1 (SetTable.grown es1.size)
    have l3 := relayAll_led t2 es1 (SetTable.grown es1.size)
    generalize relayAll t2 es1 (SetTable.grown es1.size) = Z at p3 f3 r3 l3 ⊢
    obtain ⟨es2, t3, gw⟩ := Z
    dsimp only at p3 f3 r3 l3 ⊢
    have z2 : es2.size = es1.size := by rw [← Array.length_toList, p3.length_eq, Array.length_toList]
    have b2 : es2.size < scanBound := z2.symm ▸ hb1
    refine wpAny_bind (hg _ _ _ (wpAny_bind (wpAny_storeSet_of o1 rfl ?_ (fits_of_scanBound b2))))
    exact wpAny_pure (hR _ (k1.trans (Heap.SameBut.update _ a _)) ⟨_, es2, _, t3, store_at (es' := es2) (t' := t3) o1 rfl, hex, rfl, fun e he => g1 e (p3.mem_iff.mp he), (p3.map txt).nodup_iff.mpr nd1, fun x => (m1 x).trans (p3.map txt).mem_iff.symm, b2, f3, z2, r3, hl.imp id fun z => l3.trans z⟩)
  · exact wpAny_pure (hR _ k1 ⟨_, es1, _, t2, o1, hex, rfl, g1, nd1, m1, hb1, hf2, rfl, hr, hl⟩)
theorem add_str {x : Str} {tk : Tok} {Q : Bool → Shared → Prop} (R : St w s.heap a S n) (room : n + 1 < scanBound)
    (hQ : ∀ h', Heap.SameBut a s.heap h' → St w h' a (fun y => S y || decide (y = x)) (if S x = true then n else n + 1) → Q (!S x) { s with heap := h' }) :
    wpAny (model P w) A (setAddHashed a (.str x tk) ((kS P w).hash x)) Q E s := by
  obtain ⟨o, es, ep, t, ho, hex, hd, g, nd, hm, hb, hf, hn, hr, hl⟩ := R
  have key : (kS P w).is x (.str x tk) = true := is_str x tk
  have sc : (Value.str x tk).scannable = true := rfl
  have hel : ElemsOf (kS P w) es.toList := ok_elems g
  unfold setAddHashed setAddHashedIn
  refine wpAny_holding (wpAny_bind (wpAny_setState_of ho hd hf ?_))
  dsimp only
  rw [byScan_of sc hb hel]
  simp only [↓reduceIte]
  unfold setAddByScan
  refine wpAny_bind (wpAny_bind (wpAny_rule (wpAny_bind (wpAny_setScan_of key ho hd hf hel ?_))))
  cases hfi : List.findIdx? (fun e => (kS P w).is x e.2) es.toList with
  | some j =>
    dsimp only
    obtain ⟨hj, pj, _⟩ := List.findIdx?_eq_some_iff_getElem.mp hfi
    have hS : S x = true := (hm x).2 ((ok_mem (P := P) g x).2 ⟨es.toList[j], List.getElem_mem hj, pj⟩)
    have q := hQ s.heap (Heap.SameBut.refl a s.heap) ⟨o, es, ep, t, ho, hex, hd, g, nd, fun y => by
      rw [Bool.or_eq_true, decide_eq_true_eq, ← hm y]
      exact ⟨fun z => z.elim id (fun e => e ▸ hS), .inl⟩, hb, hf, by rw [if_pos hS]; exact hn, hr, hl⟩
    rw [hS] at q
    exact wpAny_pure (wpAny_pure q)
  | none =>
    dsimp only
    have nk : x ∉ es.toList.map txt := fun z => by
      obtain ⟨e, he, q⟩ := (ok_mem (P := P) g x).1 z
      have c := List.findIdx?_eq_none_iff.mp hfi e he
      rw [q] at c
      cases c
    have hS : S x = false := by
      cases q : S x with
      | false => rfl
      | true => exact absurd ((hm x).1 q) nk
    have p1 := layNew_perm t es ((kS P w).hash x) (.str x tk)
    have f1 := layNew_fits t es ((kS P w).hash x) (.str x tk)
    have r1 := layNew_ris t es ((kS P w).hash x) (.str x tk) hr
    have l1 := layNew_led t es ((kS P w).hash x) (.str x tk)
    generalize layNew t es ((kS P w).hash x) (.str x tk) = Z at p1 f1 r1 l1 ⊢
    obtain ⟨es1, t1, dm, gw⟩ := Z
    dsimp only at p1 f1 r1 l1 ⊢
    rw [Array.toList_push] at p1
    have pc : es1.toList.Perm (((kS P w).hash x, Value.str x tk) :: es.toList) := p1.trans (List.perm_append_singleton _ _)
    have pk : (es1.toList.map txt).Perm (x :: es.toList.map txt) := pc.map txt
    have g1 : ∀ e ∈ es1.toList, OkE w e := fun e he => by
      rcases List.mem_cons.mp (pc.mem_iff.mp he) with z | z
      · rw [z]; exact ⟨x, tk, rfl, rfl⟩
      · exact g e z
    have nd1 : (es1.toList.map txt).Nodup := pk.nodup_iff.mpr (List.nodup_cons.mpr ⟨nk, nd⟩)
    have m1 : ∀ y, (S y || decide (y = x)) = true ↔ y ∈ es1.toList.map txt := fun y => by
      rw [Bool.or_eq_true, decide_eq_true_eq, hm y, pk.mem_iff, List.mem_cons]
      exact Or.comm
    have z1 : es1.size = n + 1 := by rw [← Array.length_toList, pc.length_eq, List.length_cons, Array.length_toList, hn]
    have b1 : es1.size < scanBound := z1.symm ▸ room
    have ld : w.params.followText "set-order" = true ∨ t1.led = true := hl.imp id fun z => l1.trans z
    have fin : ∀ h', Heap.SameBut a s.heap h' → St w h' a (fun y => S y || decide (y = x)) es1.size → Q true { s with heap := h' } := fun h' sb r => by
      have q := hQ h' sb
      rw [hS] at q
      rw [z1] at r
      exact q r
    refine wpAny_bind (quiet_if _ ?_)
    split
    · refine wpAny_bind ?_
      rw [hashByValue_scannable 8 sc]
      refine wpAny_pure (add_end (fun b z Q q => quiet_if b q) ho hex hd g1 nd1 m1 b1 ?_ ?_ ?_ ?_)
      · first | (split <;> first | exact f1 | exact SetTable.fits_plain_off f1) | exact f1
      · first | (split <;> exact r1) | exact r1
      · first | (split <;> exact ld) | exact ld
      · intro h' sb r; dsimp only; exact wpAny_pure (fin h' sb r)
    · refine wpAny_bind (wpAny_pure ?_)
      simp only [↓reduceIte]
      refine add_end (fun b z Q q => quiet_if b q) ho hex hd g1 nd1 m1 b1 f1 r1 ld ?_
      · intro h' sb r; dsimp only; exact wpAny_pure (fin h' sb r)
theorem st_new {h : Heap} {a : Addr} {xs : List Str} (ho : h.get? a = some { cls := .type "set", dict := none, data := .set #[] 0 (.fresh 0 0 (!w.params.followText "set-order")) }) : St w h a (fun y => decide (y ∈ xs.take 0)) 0 :=
  ⟨_, #[], 0, _, ho, ⟨rfl, rfl, rfl⟩, rfl, (fun e he => by simp at he), (by simp), (fun k => by simp), (by decide), (by rfl), rfl, List.Pairwise.nil, by
    show _ ∨ (!w.params.followText "set-order") = true
    cases w.params.followText "set-order" <;> simp⟩
/-- the loop of set.update -/
theorem upd_loop {I : Addr} {fp wr : List Addr} {G : Array GenState → Array GenState → Prop} {n : Nat} {Pv : Nat → Value → Prop} {Sx : Nat → Shared → Prop} {R : Result → Shared → Prop}
    (W : WalksS P w A.in1 I fp wr G n Pv Sx) (D : Addr) (hD : D ∉ fp) (xs : List Str) (hn : n = xs.length) (hb : xs.length + 1 < scanBound) (hval : ∀ i v, Pv i v → ∃ x t, xs[i]? = some x ∧ v = .str x t) :
    ∀ (k i : Nat) (s : Shared), n - i = k → i ≤ n → Sx i s → (∃ c, c ≤ i ∧ St w s.heap D (fun y => decide (y ∈ xs.take i)) c) →
      (∀ s' c, Moved (D :: wr) G s s' → c ≤ n → St w s'.heap D (fun y => decide (y ∈ xs)) c → R (.ok (.ret .none)) s') →
      codeAny (model P w) A (.builtin "set.update.loop" ⟨[.ref D, .ref I], []⟩) R s := by
  have hDw : D ∉ wr := fun h => hD (W.sub _ h)
  have sub : ∀ b ∈ wr, b ∈ D :: wr := fun b hb => List.mem_cons_of_mem _ hb
  intro k
  induction k with
  | zero =>
    intro i s hk hi hst ⟨c, hc, hS⟩ hR
    have e0 : i = n := by omega
    subst e0
    refine codeAny_builtin F.entry_set_update_loop ?_
    rw [Around.under_plainId F.plain_set_update_loop _]
    show wpAny _ A.in1 (pyNext (.ref I) >>= _) _ _ s
    refine wpAny_bind (W.done s _ _ hst fun s' hm => ?_)
    show wpAny _ A.in1 (ret Value.none) _ _ s'
    rw [List.take_of_length_le (by omega)] at hS
    exact wpAny_pure (hR s' c (hm.mono sub) hc (hS.at fun o e => hm.heap D o hDw e))
  | succ k ih =>
    intro i s hk hi hst ⟨c, hc, hS⟩ hR
    have lt : i < n := by omega
    refine codeAny_builtin F.entry_set_update_loop ?_
    rw [Around.under_plainId F.plain_set_update_loop _]
    show wpAny _ A.in1 (pyNext (.ref I) >>= _) _ _ s
    refine wpAny_bind (W.item i s _ _ lt hst fun v s' hP hst' hm => ?_)
    obtain ⟨x, t, hx, rfl⟩ := hval i v hP
    have hS' : St w s'.heap D (fun y => decide (y ∈ xs.take i)) c := hS.at fun o e => hm.heap D o hDw e
    show wpAny _ A.in1 (holding [Value.str x t] (setAdd D (.str x t)) >>= _) _ _ s'
    refine wpAny_bind (wpAny_holding ?_)
    unfold setAdd
    refine wpAny_holding (wpAny_bind ((kS P w).pyHash (k := x) (is_str _ _) ?_))
    refine add_str (s := { s' with toks := s'.toks + 1 }) hS' (by omega) fun h' sb S2 => ?_
    have S3 : St w h' D (fun y => decide (y ∈ xs.take (i + 1))) (if decide (x ∈ xs.take i) = true then c else c + 1) := S2.congr fun y => by
      rw [List.take_add_one, hx]
      simp [List.mem_append]
    have c3 : (if decide (x ∈ xs.take i) = true then c else c + 1) ≤ i + 1 := by split <;> omega
    refine wpAny_pure ⟨plainId_quiet F.plain_set_update_loop _, ih (i + 1) _ (by omega) lt (W.frame _ s' _ _ hst' (Nat.le_succ _) fun b hb o e => ?_) ⟨_, c3, S3⟩ fun s2 c2 m2 k2 T2 => ?_⟩
    · rw [sb.2 b (fun h : b = D => hD (by rw [← h]; exact hb))]; exact e
    · refine hR s2 c2 (Moved.trans W.gtrans ((hm.mono sub).then_heap (Nat.le_succ _) fun b o hb e => ?_) m2) k2 T2
      rw [sb.2 b (fun h : b = D => hb (by rw [h]; exact List.mem_cons_self))]; exact e
end
section
variable {A : Around} {E : Value → Shared → Prop} {s : Shared}
set_option maxRecDepth 100000 in
set_option maxHeartbeats 3200000 in
/-- set(..) of a tuple of texts -/
theorem call_set_tuple {l : Addr} {items : Array Value} (xs : List Str) {Q : Value → Shared → Prop} (hh : A.handled = none) (hl : s.heap.IsTuple l items) (hit : ∀ (i : Nat) (v : Value), items[i]? = some v → ∃ (x : Str) (t : Tok), xs[i]? = some x ∧ v = Value.str x t) (hz : items.size = xs.length) (hb : xs.length + 1 < scanBound)
    (h : ∀ (h' : Heap) (tk c : Nat), St w h' s.heap.objs.size (fun y => decide (y ∈ xs)) c → (∀ b o, s.heap.get? b = some o → h'.get? b = some o) → Q (.ref s.heap.objs.size) { s with heap := h', toks := tk }) :
    wpAny (model P w) A (call (.type "set") [.ref l]) Q E s := by
  obtain ⟨c, tl, hmro⟩ := F.called_set.mro
  have hmade := F.called_set.made
  have hsub := F.called_set.sub
  refine wpAny_call (codeAny_of_tree ?_)
  show wpAny _ _ (callAny (.type "set") _) _ _ _
  refine wpAny_pure ⟨Code.quiet_builtin _ (by decide +kernel), codeAny_builtin F.entry_type_call ?_⟩
  rw [Around.under_plain (weight_type_call_type "set" [.ref l] []) rfl]
  have h1 := F.called_set.notType
  have h2 := F.called_set.canCreate
  have hct := F.typeCall_set_1 (.ref l)
  repeat (any_goals (first | assumption | wp_step))
  refine codeAny_mono (code_set_led1 (.ref l) (E := E) (Q₁ := fun obj z => obj = .ref s.heap.objs.size ∧ z = { s with heap := s.heap.push { cls := .type "set", dict := none, data := .set #[] 0 (.fresh 0 0 (!w.params.followText "set-order")) } }) ⟨rfl, rfl⟩) fun r s₁ hr => ?_
  cases r with
  | error e => exact hr
  | ok fl =>
    cases fl with
    | ret obj =>
      obtain ⟨rfl, rfl⟩ := hr
      have hS : (s.heap.push { cls := .type "set", dict := none, data := .set #[] 0 (.fresh 0 0 (!w.params.followText "set-order")) }).get? s.heap.objs.size = some { cls := .type "set", dict := none, data := .set #[] 0 (.fresh 0 0 (!w.params.followText "set-order")) } := Heap.get?_push_size _ rfl
      have hT : Shared.TypeIs { s with heap := s.heap.push { cls := .type "set", dict := none, data := .set #[] 0 (.fresh 0 0 (!w.params.followText "set-order")) } } (.ref s.heap.objs.size) "set" := ⟨_, hS, rfl⟩
      have hli := F.called_set.init.lookup
      have hbi := F.called_set.init.bind (.ref s.heap.objs.size)
      repeat (any_goals (first | assumption | wp_step))
      refine codeAny_mono (codeAny_call_builtin (R := wants (fun r z => r = .none ∧ ∃ h' tk c, z = { s with heap := h', toks := tk } ∧ St w h' s.heap.objs.size (fun y => decide (y ∈ xs)) c ∧ (∀ b o, s.heap.get? b = some o → h'.get? b = some o)) E) F.called_set.init.plain F.entry_set_init (check_set_init_1 hT ?_)) fun r₂ s₂ hr₂ => ?_
      · obtain ⟨ol, hol, hcl, nl, hdl⟩ := hl
        obtain ⟨ocls, odict, odata, oslots⟩ := ol
        simp only at hcl hdl
        subst hcl; subst hdl
        have hol' : (s.heap.push { cls := .type "set", dict := none, data := .set #[] 0 (.fresh 0 0 (!w.params.followText "set-order")) }).get? l = some { cls := .type "tuple", dict := odict, data := .seq items nl, slots := oslots } := Heap.get?_push_of_some _ hol
        have hsls := F.sub_tuple_set
        have hslf := F.sub_tuple_frozenset
        have hne : (Value.type "tuple" == Value.type "dict") = false := by decide
        have hl1 : (s.heap.push { cls := .type "set", dict := none, data := .set #[] 0 (.fresh 0 0 (!w.params.followText "set-order")) }).IsTuple l items := ⟨_, hol', rfl, nl, rfl⟩
        unfold Builtin.«set.__init__» noKeywords Builtin.Frozenset.updateFrom
        generalize hPI : pyIter = PI
        wp_walk
        subst hPI
        refine wpAny_pyIter_tuple hl1 ?_
        refine wpAny_bind (wpAny_runValue ?_)
        have hlS : l < s.heap.objs.size := Heap.lt_size hol
        have z1 : (s.heap.push { cls := .type "set", dict := none, data := .set #[] 0 (.fresh 0 0 (!w.params.followText "set-order")) }).objs.size = s.heap.objs.size + 1 := Heap.size_push ..
        refine upd_loop ((Walks.tuple (A := A.in1.in1.in1) (by simp [hh]) (s.heap.push { cls := .type "set", dict := none, data := .set #[] 0 (.fresh 0 0 (!w.params.followText "set-order")) }).objs.size l (by rw [z1]; exact Nat.ne_of_lt (Nat.lt_succ_of_lt hlS)) items).toS) s.heap.objs.size (by
          rw [z1]
          intro q
          rcases List.mem_cons.mp q with q | q
          · exact absurd q (Nat.ne_of_lt (Nat.lt_succ_self _))
          · exact absurd (List.mem_singleton.mp q) (Nat.ne_of_gt hlS)) xs hz hb hit (items.size - 0) 0 _ (by omega) (Nat.zero_le _)
          ⟨⟨_, Heap.get?_push_size _ rfl, rfl, rfl⟩, (hl1.push _)⟩ ⟨0, Nat.le_refl 0, st_new (Heap.get?_push_of_some _ hS)⟩ ?_
        intro s' c' hm hc' hS'
        obtain ⟨h', g2, d', tk', os'⟩ := s'
        have eg : g2 = s.gens := hm.gens
        have ed : d' = s.drawn := hm.drawn
        have eo : os' = s.os := hm.os
        subst eg; subst ed; subst eo
        show wpAny _ _ _ _ _ _
        refine wpAny_pure ?_
        show wpAny _ _ (ret Value.none) _ _ _
        refine wpAny_pure ⟨rfl, h', tk', c', rfl, hS', fun b o e => ?_⟩
        have lb : b < s.heap.objs.size := Heap.lt_size e
        exact hm.heap b o (by
          rw [z1]
          intro q
          rcases List.mem_cons.mp q with q | q
          · exact absurd q (Nat.ne_of_lt lb)
          · exact absurd (List.mem_singleton.mp q) (Nat.ne_of_lt (Nat.lt_succ_of_lt lb))) (Heap.get?_push_of_some _ (Heap.get?_push_of_some _ e))
      · cases r₂ with
        | error e => exact hr₂
        | ok fl₂ =>
          cases fl₂ with
          | ret r =>
            obtain ⟨rfl, h', tk, c', rfl, hS', hk'⟩ := hr₂
            repeat (any_goals (first | assumption | wp_step))
            exact h _ _ _ hS' hk'
          | _ => exact hr₂.elim
    | _ => exact hr.elim
set_option maxRecDepth 100000 in
set_option maxHeartbeats 3200000 in
/-- set(..) of a list of texts -/
theorem call_set_list {l : Addr} {items : Array Value} (xs : List Str) {Q : Value → Shared → Prop} (hh : A.handled = none) (hl : s.heap.IsList l items) (hit : ∀ (i : Nat) (v : Value), items[i]? = some v → ∃ (x : Str) (t : Tok), xs[i]? = some x ∧ v = Value.str x t) (hz : items.size = xs.length) (hb : xs.length + 1 < scanBound)
    (h : ∀ (h' : Heap) (tk c : Nat), St w h' s.heap.objs.size (fun y => decide (y ∈ xs)) c → (∀ b o, s.heap.get? b = some o → h'.get? b = some o) → Q (.ref s.heap.objs.size) { s with heap := h', toks := tk }) :
    wpAny (model P w) A (call (.type "set") [.ref l]) Q E s := by
  obtain ⟨c, tl, hmro⟩ := F.called_set.mro
  have hmade := F.called_set.made
  have hsub := F.called_set.sub
  refine wpAny_call (codeAny_of_tree ?_)
  show wpAny _ _ (callAny (.type "set") _) _ _ _
  refine wpAny_pure ⟨Code.quiet_builtin _ (by decide +kernel), codeAny_builtin F.entry_type_call ?_⟩
  rw [Around.under_plain (weight_type_call_type "set" [.ref l] []) rfl]
  have h1 := F.called_set.notType
  have h2 := F.called_set.canCreate
  have hct := F.typeCall_set_1 (.ref l)
  repeat (any_goals (first | assumption | wp_step))
  refine codeAny_mono (code_set_led1 (.ref l) (E := E) (Q₁ := fun obj z => obj = .ref s.heap.objs.size ∧ z = { s with heap := s.heap.push { cls := .type "set", dict := none, data := .set #[] 0 (.fresh 0 0 (!w.params.followText "set-order")) } }) ⟨rfl, rfl⟩) fun r s₁ hr => ?_
  cases r with
  | error e => exact hr
  | ok fl =>
    cases fl with
    | ret obj =>
      obtain ⟨rfl, rfl⟩ := hr
      have hS : (s.heap.push { cls := .type "set", dict := none, data := .set #[] 0 (.fresh 0 0 (!w.params.followText "set-order")) }).get? s.heap.objs.size = some { cls := .type "set", dict := none, data := .set #[] 0 (.fresh 0 0 (!w.params.followText "set-order")) } := Heap.get?_push_size _ rfl
      have hT : Shared.TypeIs { s with heap := s.heap.push { cls := .type "set", dict := none, data := .set #[] 0 (.fresh 0 0 (!w.params.followText "set-order")) } } (.ref s.heap.objs.size) "set" := ⟨_, hS, rfl⟩
      have hli := F.called_set.init.lookup
      have hbi := F.called_set.init.bind (.ref s.heap.objs.size)
      repeat (any_goals (first | assumption | wp_step))
      refine codeAny_mono (codeAny_call_builtin (R := wants (fun r z => r = .none ∧ ∃ h' tk c, z = { s with heap := h', toks := tk } ∧ St w h' s.heap.objs.size (fun y => decide (y ∈ xs)) c ∧ (∀ b o, s.heap.get? b = some o → h'.get? b = some o)) E) F.called_set.init.plain F.entry_set_init (check_set_init_1 hT ?_)) fun r₂ s₂ hr₂ => ?_
      · obtain ⟨ol, hol, hcl, nl, hdl⟩ := hl
        obtain ⟨ocls, odict, odata, oslots⟩ := ol
        simp only at hcl hdl
        subst hcl; subst hdl
        have hol' : (s.heap.push { cls := .type "set", dict := none, data := .set #[] 0 (.fresh 0 0 (!w.params.followText "set-order")) }).get? l = some { cls := .type "list", dict := odict, data := .seq items nl, slots := oslots } := Heap.get?_push_of_some _ hol
        have hsls := F.sub_list_set
        have hslf := F.sub_list_frozenset
        have hne : (Value.type "list" == Value.type "dict") = false := by decide
        have hl1 : (s.heap.push { cls := .type "set", dict := none, data := .set #[] 0 (.fresh 0 0 (!w.params.followText "set-order")) }).IsList l items := ⟨_, hol', rfl, nl, rfl⟩
        unfold Builtin.«set.__init__» noKeywords Builtin.Frozenset.updateFrom
        generalize hPI : pyIter = PI
        wp_walk
        subst hPI
        refine wpAny_pyIter_list hl1 ?_
        refine wpAny_bind (wpAny_runValue ?_)
        have hlS : l < s.heap.objs.size := Heap.lt_size hol
        have z1 : (s.heap.push { cls := .type "set", dict := none, data := .set #[] 0 (.fresh 0 0 (!w.params.followText "set-order")) }).objs.size = s.heap.objs.size + 1 := Heap.size_push ..
        refine upd_loop ((Walks.list (A := A.in1.in1.in1) (by simp [hh]) (s.heap.push { cls := .type "set", dict := none, data := .set #[] 0 (.fresh 0 0 (!w.params.followText "set-order")) }).objs.size l (by rw [z1]; exact Nat.ne_of_lt (Nat.lt_succ_of_lt hlS)) items).toS) s.heap.objs.size (by
          rw [z1]
          intro q
          rcases List.mem_cons.mp q with q | q
          · exact absurd q (Nat.ne_of_lt (Nat.lt_succ_self _))
          · exact absurd (List.mem_singleton.mp q) (Nat.ne_of_gt hlS)) xs hz hb hit (items.size - 0) 0 _ (by omega) (Nat.zero_le _)
          ⟨⟨_, Heap.get?_push_size _ rfl, rfl, rfl⟩, (hl1.push _)⟩ ⟨0, Nat.le_refl 0, st_new (Heap.get?_push_of_some _ hS)⟩ ?_
        intro s' c' hm hc' hS'
        obtain ⟨h', g2, d', tk', os'⟩ := s'
        have eg : g2 = s.gens := hm.gens
        have ed : d' = s.drawn := hm.drawn
        have eo : os' = s.os := hm.os
        subst eg; subst ed; subst eo
        show wpAny _ _ _ _ _ _
        refine wpAny_pure ?_
        show wpAny _ _ (ret Value.none) _ _ _
        refine wpAny_pure ⟨rfl, h', tk', c', rfl, hS', fun b o e => ?_⟩
        have lb : b < s.heap.objs.size := Heap.lt_size e
        exact hm.heap b o (by
          rw [z1]
          intro q
          rcases List.mem_cons.mp q with q | q
          · exact absurd q (Nat.ne_of_lt lb)
          · exact absurd (List.mem_singleton.mp q) (Nat.ne_of_lt (Nat.lt_succ_of_lt lb))) (Heap.get?_push_of_some _ (Heap.get?_push_of_some _ e))
      · cases r₂ with
        | error e => exact hr₂
        | ok fl₂ =>
          cases fl₂ with
          | ret r =>
            obtain ⟨rfl, h', tk, c', rfl, hS', hk'⟩ := hr₂
            repeat (any_goals (first | assumption | wp_step))
            exact h _ _ _ hS' hk'
          | _ => exact hr₂.elim
    | _ => exact hr.elim

theorem strs_are : ∀ (l : List Value), (∀ v ∈ l, ∃ x tk, v = Value.str x tk) → ∃ ss, StrsAre l ss ∧ l.map (fun v => txt (0, v)) = ss
  | [], _ => ⟨[], .nil, rfl⟩
  | v :: l, h => by
    obtain ⟨x, tk, rfl⟩ := h v List.mem_cons_self
    obtain ⟨ss, h1, h2⟩ := strs_are l fun u hu => h u (List.mem_cons_of_mem _ hu)
    exact ⟨x :: ss, .cons x tk h1, by rw [List.map_cons, h2]; rfl⟩
/-- sorted(..) of a set of texts -/
theorem sorted_txt {a : Addr} {S : Str → Bool} {n : Nat} {Q : Value → Shared → Prop} (R : St w s.heap a S n) (hh : A.handled = none)
    (hQ : ∀ s' p (out : Array Value) (c : Nat) (ys : List Str), (∀ b o, s.heap.get? b = some o → s'.heap.get? b = some o) → s'.gens = s.gens → s'.os = s.os → s.heap.objs.size ≤ p →
      s'.heap.get? p = some (seqObj "list" out c) → StrsAre out.toList ys → sortedS ys = true → ys.Nodup → (∀ x, x ∈ ys ↔ S x = true) → ys.length = n → n < scanBound → Q (.ref p) s') :
    wpAny (model P w) A (call (.builtin "sorted") [.ref a]) Q E s := by
  obtain ⟨o, es, ep, t, ho, hex, hd, g, nd, hm, hb, hf, hn, hr, hl⟩ := R
  refine Calls.call_function_entry kind_sorted plain_sorted entry_sorted (args_sorted1 _) ?_
  unfold Builtin.«sorted»
  refine wpAny_bind (m := checkCount "sorted" 1 1 _) (wpAny_pure ?_)
  refine wpAny_bind (collect_set (A := A.in1) hh ⟨o, ho, hex.1, hd⟩ hf hb hr hl fun s1 vs k1 hz g1 o1 pm => ?_)
  have vl : vs.length = n := by rw [pm.length_eq, List.length_map, Array.length_toList]; exact hn
  obtain ⟨ss, hI, hss⟩ := strs_are vs fun v hv => by
    obtain ⟨e, he, q⟩ := List.mem_map.mp (pm.mem_iff.mp hv)
    obtain ⟨x, tk, h1, _⟩ := g e he
    exact ⟨x, tk, by rw [← q]; exact h1⟩
  have pk : ss.Perm (es.toList.map txt) := by
    have q := pm.map fun v => txt (0, v)
    rw [List.map_map, hss] at q
    exact q
  have vz : vs.length ≤ sizeLine := by rw [vl, ← hn]; exact fits_of_scanBound hb
  refine wpAny_bind (wpAny_newList ?_ vz)
  have oL : (s1.heap.push (seqObj "list" vs.toArray 0)).get? s1.heap.objs.size = some (seqObj "list" vs.toArray 0) := Heap.get?_push_size _ rfl
  refine wpAny_bind (wpAny_holding (wpAny_call_entry slot_list_sort ⟨_, oL, rfl⟩ entry_list_sort (list_sort_treeKAny strKind_oneLt oL hI.keysOf (fun v₁ v₂ rest e => keyKind_strs (by rw [← e]; exact hI)) vz fun st' a1 a2 => ⟨_, rfl, ?_⟩) (args_list_sort _)))
  obtain ⟨ys, b1, b2, b3⟩ := sorted_out_str hI a1 a2
  have pn : ys.Perm (es.toList.map txt) := b2.trans pk
  obtain ⟨c, hc⟩ := sortedHeap_at (vs := vs) (out := (arrOf st').map (·.2)) oL
  refine wpAny_pure ⟨_, rfl, hQ _ s1.heap.objs.size _ c ys (fun b u e => ?_) g1 o1 hz hc b1 b3 (pn.nodup_iff.mpr nd) (fun x => by rw [pn.mem_iff, ← hm x]) ?_ (by rw [← hn]; exact hb)⟩
  · have q := k1 b u e
    have lt := Heap.lt_size q
    show (sortedHeap (s1.heap.push (seqObj "list" vs.toArray 0)) s1.heap.objs.size vs ((arrOf st').map (·.2))).get? b = some u
    rw [sortedHeap_old (Nat.ne_of_lt lt) (by rw [size_push']; exact Nat.lt_succ_of_lt lt)]
    exact Heap.get?_push_of_some _ q
  · rw [pn.length_eq, List.length_map, Array.length_toList]; exact hn
end
end SX
namespace DL
open PySem PySem.Spec PyProof.Rows L2 RT RZ
/-! ### sorted(set(..)) of texts -/
def SetX (w : World) (a : Addr) (S : Str → Bool) (n : Nat) : HO := .ext fun h => SX.St w h a S n
theorem vals_str : ∀ {xs : List Str} {us : List Value} {i : Nat} {v : Value}, Vals (xs.map V.str) us → us[i]? = some v → ∃ (x : Str) (t : Tok), xs[i]? = some x ∧ v = Value.str x t
  | [], _, i, v, r, e => by
    cases r
    simp at e
  | x :: xs, _, 0, v, r, e => by
    cases r with
    | cons h t =>
      obtain ⟨tk, rfl⟩ := h
      simp at e
      exact ⟨x, tk, rfl, e.symm⟩
  | x :: xs, _, i + 1, v, r, e => by
    cases r with
    | cons h t =>
      obtain ⟨y, tk, h1, h2⟩ := vals_str t (by simpa using e)
      exact ⟨y, tk, by simpa using h1, h2⟩
section
variable {X : Cx}
def rSetX (X : Cx) : List V → Hp → VK → Prop := fun vs H Q => ∃ (a : Addr) (xs : List Str), vs = [V.ref a] ∧ (SqL X.K H a (xs.map V.str) ∨ SqT X.K H a (xs.map V.str)) ∧ xs.length + 1 < scanBound ∧ ∀ (p : Addr) (n : Nat), H p = none → Q (.ref p) (upd H p (SetX X.w p (fun y => decide (y ∈ xs)) n))
theorem setX_new {P : Program} {w : World} {H : Hp} {h : Heap} {a : Addr} {S : Str → Bool} {n : Nat} (R : SX.St w h a S n) : ObjOk P w H h a (SetX w a S n) :=
  ⟨R, let ⟨o, _, _, _, ho, _⟩ := R; ⟨o, ho⟩, fun _ _ q k => q.at k⟩
theorem cr_setX (hc : X.calm = true) : CallR X (.type "set") (rSetX X) := by
  intro pins s σ H vs us Q I r h
  obtain ⟨a, xs, rfl, hs, hb, q⟩ := h
  rw [Vals.ref1 r]
  have hn : H s.heap.objs.size = none := I.hok.fresh (Nat.le_refl _)
  rcases hs with hs | hs
  · obtain ⟨its, rv, pl, hz⟩ := I.list hs
    have hl := rv.length
    rw [List.length_map] at hl
    refine SX.call_set_list (P := X.prog) (w := X.w) xs (I.ok.hd hc) pl.isList (fun i v e => vals_str rv (by simpa using e)) (by simpa using hl.symm) hb fun h' tk c R k => ?_
    exact ⟨.ref s.heap.objs.size, upd H s.heap.objs.size (SetX X.w s.heap.objs.size _ c), I.laid (t' := tk) k (Nat.le_refl _) (setX_new R), rfl, q _ c hn⟩
  · obtain ⟨its, rv, pl, hz⟩ := I.tuple hs
    have hl := rv.length
    rw [List.length_map] at hl
    refine SX.call_set_tuple (P := X.prog) (w := X.w) xs (I.ok.hd hc) pl (fun i v e => vals_str rv (by simpa using e)) (by simpa using hl.symm) hb fun h' tk c R k => ?_
    exact ⟨.ref s.heap.objs.size, upd H s.heap.objs.size (SetX X.w s.heap.objs.size _ c), I.laid (t' := tk) k (Nat.le_refl _) (setX_new R), rfl, q _ c hn⟩
def rSortX (X : Cx) : List V → Hp → VK → Prop := fun vs H Q => ∃ (a : Addr) (S : Str → Bool) (n : Nat), vs = [V.ref a] ∧ H a = some (SetX X.w a S n) ∧ ∀ (p : Addr) (ys : List Str), H p = none → sortedS ys = true → ys.Nodup → (∀ x, x ∈ ys ↔ S x = true) → Q (.ref p) (upd H p (.lst (ys.map V.str)))
theorem cr_sortX (hc : X.calm = true) : CallR X (.builtin "sorted") (rSortX X) := by
  intro pins s σ H vs us Q I r h
  obtain ⟨a, S, n, rfl, ha, q⟩ := h
  have R : SX.St X.w s.heap a S n := (I.hok a _ ha).1
  rw [Vals.ref1 r]
  refine SX.sorted_txt R (I.ok.hd hc) fun s' p out c ys k g o hp hg hi h1 h2 h3 h4 h5 => ?_
  have hlen : (ys.map V.str).length ≤ sizeLine := by rw [List.length_map, h4]; exact fits_of_scanBound h5
  have hn : H p = none := I.hok.fresh hp
  have J : Inv X pins σ (upd H p (.lst (ys.map V.str))) { s with heap := s'.heap, gens := s'.gens, drawn := s'.drawn, toks := s'.toks } :=
    I.call (ch := []) (Un.laid k hp hn) (I.hok.laid k hp ⟨hlen, out.toList, c, vals_of_strs hi, hg⟩) (by rw [g]; exact I.bare) (fun _ z => nomatch z)
  have e : s' = { s with heap := s'.heap, gens := s'.gens, drawn := s'.drawn, toks := s'.toks } := by
    cases s'
    cases s
    cases o
    rfl
  rw [e]
  exact ⟨.ref p, _, J, rfl, q p ys hn h1 h2 h3⟩
end
/-- each text once -/
def uniqS : List Str → List Str
  | [] => []
  | x :: l => if x ∈ l then uniqS l else x :: uniqS l
theorem mem_uniqS {x : Str} : ∀ {l : List Str}, x ∈ uniqS l ↔ x ∈ l
  | [] => by simp [uniqS]
  | y :: l => by
    unfold uniqS
    split
    · rename_i h
      rw [mem_uniqS (l := l), List.mem_cons]
      exact ⟨.inr, fun q => q.elim (fun e => e ▸ h) id⟩
    · rw [List.mem_cons, List.mem_cons, mem_uniqS (l := l)]
theorem nodup_uniqS : ∀ l : List Str, (uniqS l).Nodup
  | [] => List.nodup_nil
  | y :: l => by
    unfold uniqS
    split
    · exact nodup_uniqS l
    · rename_i h
      exact List.nodup_cons.mpr ⟨fun q => h (mem_uniqS.mp q), nodup_uniqS l⟩
def sortU (l : List Str) : List Str := sortS (uniqS l)
theorem sortU_unique {xs ys : List Str} (h1 : sortedS ys = true) (h2 : ys.Nodup) (h3 : ∀ x, x ∈ ys ↔ x ∈ xs) : ys = sortU xs :=
  sortS_unique ((List.perm_ext_iff_of_nodup h2 (nodup_uniqS xs)).mpr fun x => (h3 x).trans mem_uniqS.symm) h1
def gSS (d : D) (S : Sto) : Option (D × Sto) := match seqOf d S with
  | some ds => match strsOf ds with
    | some xs => if xs.length ≤ 4000 then some (.ref S.length, S ++ [.lst ((sortU xs).map D.str)]) else none
    | none => none
  | none => none
def dSS (fa : Ev → Sto → Ans D) : Ev → Sto → Ans D := fun env S => bindR (fa env S) fun a S1 => okO (gSS a S1)
theorem RS.fresh {K : PySem.W.Frag} {io : List Addr} {S : Sto} {H : Hp} (h : RS K io S H) {p : Addr} {u : HO} (hp : H p = none) : RS K io S (upd H p u) := ⟨h.len, fun n o a e1 e2 => by
  have q := (h.obj n o a e1 e2).fresh (t := []) (o := u) hp
  rwa [List.append_nil] at q, h.inj⟩
theorem d_ss {X : Cx} {W : XK} {e : Expr} {p p2 pos q : Pos} {fa : Ev → Sto → Ans D} (hc : X.calm = true) (hg : Gl X "sorted") (hm : X.mg "sorted" = none) (hg2 : Gl X "set") (hm2 : X.mg "set" = none) (he : DE X W e fa)
    (hs : starEach [e] X.env = (false, eval e X.env) :: starEach [] X.env := by rfl) (hs2 : starEach [Expr.Call (.Name "set" p2) [e] [] q] X.env = (false, eval (Expr.Call (.Name "set" p2) [e] [] q) X.env) :: starEach [] X.env := by rfl) (hpl : (backTo q (starEach [] X.env)).any (·.1) = false := by rfl) (hpl2 : (backTo pos (starEach [] X.env)).any (·.1) = false := by rfl) :
    DE X W (.Call (.Name "sorted" p) [.Call (.Name "set" p2) [e] [] q] [] pos) (dSS fa) :=
  pe_weak (pe_callB (cr_sortX hc) hg hm (by decide +kernel) (pa_cons (pe_callTy (cr_setX hc) hg2 hm2 (by decide +kernel) (pa_cons he pa_nil hs) (by decide) (by decide) hs hpl) pa_nil hs2) (by decide) (by decide) hs2 hpl2) fun σ H Q ⟨io, S, env, r, S', rs, re, hf, hE⟩ =>
    tG_bind rs re hf hE fun a S1 io1 H1 v e1 rs1 re1 rv1 h1 hE1 => by
      obtain ⟨d, h2, rfl⟩ := okO_some h1
      unfold gSS at h2
      split at h2
      · rename_i ds hd
        split at h2
        · rename_i xs hx
          split at h2
          · rename_i hz
            cases h2
            obtain ⟨a0, vs, rfl, k1, k2⟩ := RV.seq rs1 rv1 hd
            have := strs_V hx k2
            subst this
            refine ⟨a0, xs, rfl, k1, by unfold scanBound; omega, fun p n hp => ?_⟩
            refine ⟨p, _, n, rfl, upd_same, fun p2 ys hp2 y1 y2 y3 => ?_⟩
            have ex : Ext X.K io1 H1 io1 (upd H1 p (SetX X.w p (fun y => decide (y ∈ xs)) n)) := Ext.fresh hp
            have rs2 : RS X.K io1 S1 (upd H1 p (SetX X.w p (fun y => decide (y ∈ xs)) n)) := rs1.fresh hp
            have hu := sortU_unique (xs := xs) y1 y2 (fun x => by rw [y3 x]; simp)
            subst hu
            exact hE1 _ _ _ (ex.trans (Ext.new hp2)) (rs2.lstNew hp2 (strsRV _)) (mRef rs2.lastNew)
          · cases h2
        · cases h2
      · cases h2
/-- sorted(..) of a list of texts, however long -/
def cSortedA : List D → Sto → Option (D × Sto)
  | [.ref n], S => match seqOf (.ref n) S with
    | some ds => match strsOf ds with
      | some is => some (.ref S.length, S ++ [.lst ((sortS is).map D.str)])
      | none => none
    | none => none
  | _, _ => none
end DL
namespace SX
open PySem PySem.Spec PyProof.Rows L2
/-! ### a dict with numbers and texts as its keys, looked up for a tuple -/
section
variable {P : Program} {w : World} {A : Around} {E : Value → Shared → Prop} {s : Shared}
def keyN : L2.Key → NestedKey
  | .inl i => .num i
  | .inr x => .text x
theorem key_nested {h : Heap} {k : L2.Key} {v : Value} (x : (mixKind P w).is k v = true) : NestedIs h (keyN k) v := by
  rcases keyIs_shape x with ⟨i, t, rfl, rfl⟩ | ⟨y, t, rfl, rfl⟩
  · exact .int _ _
  · exact .text _ _
theorem key_depth (k : L2.Key) : (keyN k).depth ≤ 8 := by
  cases k <;> simp [keyN, NestedKey.depth]
theorem key_by {k : L2.Key} {v : Value} (x : (mixKind P w).is k v = true) : carriedByValue v = true := by
  rcases keyIs_shape x with ⟨i, t, rfl, rfl⟩ | ⟨y, t, rfl, rfl⟩ <;> rfl
theorem tell_quiet {key : Value} {stored : List Value} {Q : Bool → Shared → Prop} (hk : QuietAt P w 8 s key) (hst : ∀ v ∈ stored, QuietAt P w 8 s v) (h : Q false s) : wpAny (model P w) A (tableMayTell key stored) Q E s := by
  unfold tableMayTell
  split
  · exact wpAny_pure h
  · refine wpAny_bind (hk A E _ ?_)
    simp only [Bool.not_true, Bool.false_eq_true, if_false]
    refine wpAny_bind (wpAny_forIn_list _ (fun rest r s' => s' = s ∧ r = (none, ()) ∧ ∀ v ∈ rest, QuietAt P w 8 s v) _ ?_ ?_ _ _ ⟨rfl, rfl, hst⟩)
    · rintro x rest r s' ⟨rfl, rfl, hr⟩
      refine wpAny_bind (hr x List.mem_cons_self A E _ ?_)
      simp only [Bool.not_true, Bool.false_eq_true, if_false]
      exact wpAny_pure ⟨rfl, rfl, fun v hv => hr v (List.mem_cons_of_mem _ hv)⟩
    · rintro r s' ⟨rfl, rfl, _⟩
      exact wpAny_pure h
theorem find_miss {d a : Addr} {o : Obj} {es : Array DictEntry} {ep : Nat} {ks : List NestedKey} {Q : Option Nat → Shared → Prop} (hu : A.units + 8 < cLine) (hk : NestedIs s.heap (.tup ks) (.ref a)) (hd8 : (NestedKey.tup ks).depth ≤ 8)
    (ho : s.heap.get? d = some o) (hd : o.data = .dict es ep) (he : KeysOf (mixKind P w) es) (h : Q none s) (hh : Int) : wpAny (model P w) A (dictFind d (.ref a) hh) Q E s := by
  have leaf : ∀ (i : Nat) (e : DictEntry), es[i]? = some e → ∃ k, (mixKind P w).is k e.key = true := fun i e q => by
    obtain ⟨k, h1, _⟩ := he e (Array.mem_of_getElem? q)
    exact ⟨k, h1⟩
  have hany : ¬ (es.any fun e => e.key == Value.ref a && e.hash != hh) = true := by
    rw [← Array.any_toList, List.any_eq_true]
    rintro ⟨e, hin, hc⟩
    obtain ⟨k, h1, _⟩ := he e (Array.mem_toList_iff.mp hin)
    simp only [Bool.and_eq_true, beq_iff_eq] at hc
    have := key_by h1
    rw [hc.1] at this
    cases this
  have hst : ∀ v ∈ (placesWithHash es.size (fun i => es[i]?.map (·.hash)) hh).filterMap (fun i => es[i]?.map (·.key)), QuietAt P w 8 s v := by
    intro v hv
    obtain ⟨i, _, hi⟩ := List.mem_filterMap.mp hv
    cases hei : es[i]? with
    | none => rw [hei] at hi; cases hi
    | some e =>
      rw [hei] at hi
      obtain rfl : e.key = v := by simpa using hi
      obtain ⟨k, h1⟩ := leaf i e hei
      exact quiet_key _ _ 8 s (key_nested h1) (key_depth k)
  unfold dictFind
  try with_reducible refine wpAny_holding ?_
  refine wpAny_bind (wpAny_dictEntries ho hd ?_)
  dsimp only
  rw [if_neg (show ¬ ((Value.ref a :: (placesWithHash es.size (fun i => es[i]?.map (·.hash)) hh).filterMap (fun i => es[i]?.map (·.key))).all carriedByValue) = true by simp [carriedByValue]), if_neg hany]
  by_cases hone : (((placesWithHash es.size (fun i => es[i]?.map (·.hash)) hh).filterMap (fun i => es[i]?.map (·.key))) == [Value.ref a]) = true <;>
  (first | rw [if_pos hone] | rw [if_neg hone]) <;> (first | refine wpAny_bind (wpAny_pure ?_) | refine wpAny_bind (tell_quiet (quiet_key _ _ 8 s hk hd8) hst ?_)) <;> (
    rw [if_neg (by simp)]
    refine wpAny_bind (wpAny_forIn_list _ (fun rest b s' => s' = s ∧ b = (none, none)) _ ?_ ?_ _ _ ⟨rfl, rfl⟩)
    · rintro x rest b s' ⟨rfl, rfl⟩
      cases hx : es[x]? with
      | none => exact wpAny_pure ⟨rfl, rfl⟩
      | some e =>
        dsimp only
        by_cases q : (e.hash == hh) = true
        · rw [if_pos q]
          obtain ⟨k, h1⟩ := leaf x e hx
          have hb : SeqAt.EqAt A s' e.key (.ref a) false := by
            have dk : (keyN k).depth = 0 := by cases k <;> rfl
            have e1 := eqAt_key (keyN k) (.tup ks) A s' e.key (.ref a) (key_nested h1) hk (by rw [dk, Nat.zero_min]; omega)
            have e2 : NestedKey.beq (keyN k) (.tup ks) = false := by cases k <;> rfl
            rw [e2] at e1
            exact e1
          refine wpAny_bind (wpAny_dictEpoch ho hd (wpAny_bind (hb _ _ _ _ (wpAny_bind (wpAny_dictEpoch ho hd ?_)))))
          show wpAny _ _ (if (ep != ep) = true then _ else _) _ E _
          rw [if_neg (by simp)]
          simp only [Bool.false_eq_true, if_false]
          refine wpAny_bind (wpAny_rule ?_)
          first | rw [if_neg (by simp)] | skip
          first
            | exact wpAny_pure ⟨rfl, rfl⟩
            | exact wpAny_bind (wpAny_pure (wpAny_pure ⟨rfl, rfl⟩))
        · rw [if_neg q]
          exact wpAny_pure ⟨rfl, rfl⟩
    · rintro b s' ⟨rfl, rfl⟩
      exact wpAny_pure h)
theorem get_miss {d a : Addr} {kvs : List (L2.Key × Value)} {ks : List NestedKey} {Q : Option Value → Shared → Prop} (hu : A.units + 8 < cLine) (hk : NestedIs s.heap (.tup ks) (.ref a)) (hd8 : (NestedKey.tup ks).depth ≤ 8) (hm : s.heap.DictOf (mixKind P w) d kvs)
    (h : ∀ tk, Q none { s with toks := tk }) : wpAny (model P w) A (dictGet d (.ref a)) Q E s := by
  obtain ⟨o, es, ep, ho, _, hd, he, _, _⟩ := hm
  unfold dictGet
  try with_reducible refine wpAny_holding ?_
  refine wpAny_bind (pyHash_key _ _ A s _ hk (by omega) (wpAny_bind (find_miss (s := { s with toks := s.toks + (NestedKey.tup ks).draws }) hu hk hd8 ho hd he ?_ _)))
  exact wpAny_pure (h _)
theorem meets_get_miss {d a : Addr} (hd : (d == sysModules) = false) : MeetsIn P w (Builtin.«dict.get» ⟨[.ref d, .ref a], []⟩) (fun A R s => A.in1.units + 8 < cLine ∧ ∃ (ks : List NestedKey) (kvs : List (L2.Key × Value)), NestedIs s.heap (.tup ks) (.ref a) ∧ (NestedKey.tup ks).depth ≤ 8 ∧ s.heap.DictOf (mixKind P w) d kvs ∧
    ∀ tk, R (.ok (.ret .none)) { s with toks := tk }) :=
  .of_wp fun A R s ⟨hu, ks, kvs, h1, h2, h3, h⟩ => by
    show wpAny _ _ (dictGet d (.ref a) >>= _) _ _ s
    refine wpAny_bind (get_miss hu h1 h2 h3 fun tk => ?_)
    show wpAny _ _ (Builtin.Dict.missed d (.ref a) >>= _) _ _ _
    exact wpAny_bind (wpAny_missed_other hd (wpAny_pure ⟨.none, rfl, h tk⟩))
theorem meets_get_miss2 {d a : Addr} (hd : (d == sysModules) = false) (x : Value) : MeetsIn P w (Builtin.«dict.get» ⟨[.ref d, .ref a, x], []⟩) (fun A R s => A.in1.units + 8 < cLine ∧ ∃ (ks : List NestedKey) (kvs : List (L2.Key × Value)), NestedIs s.heap (.tup ks) (.ref a) ∧ (NestedKey.tup ks).depth ≤ 8 ∧ s.heap.DictOf (mixKind P w) d kvs ∧
    ∀ tk, R (.ok (.ret x)) { s with toks := tk }) :=
  .of_wp fun A R s ⟨hu, ks, kvs, h1, h2, h3, h⟩ => by
    show wpAny _ _ (dictGet d (.ref a) >>= _) _ _ s
    refine wpAny_bind (get_miss hu h1 h2 h3 fun tk => ?_)
    show wpAny _ _ (Builtin.Dict.missed d (.ref a) >>= _) _ _ _
    exact wpAny_bind (wpAny_missed_other hd (wpAny_pure ⟨x, rfl, h tk⟩))
theorem contains_miss {d a : Addr} {ks : List NestedKey} {kvs : List (L2.Key × Value)} {Q : Bool → Shared → Prop} (hu : A.in1.units + 8 < cLine) (h1 : NestedIs s.heap (.tup ks) (.ref a)) (h2 : (NestedKey.tup ks).depth ≤ 8) (hd : (d == sysModules) = false) (hm : s.heap.DictOf (mixKind P w) d kvs)
    (h : ∀ tk, Q false { s with toks := tk }) : wpAny (model P w) A (contains (.ref d) (.ref a)) Q E s := by
  refine wpAny_contains_slot hm.typeIs F.slot_dict_contains ?_
  refine call_meetsIn F.slot_dict_contains hm.typeIs F.entry_dict_contains (F.args_dict_contains_2 _ _) (S := fun A' R s' => A' = A ∧ s' = s ∧ ∀ tk, R (.ok (.ret (.bool false))) { s with toks := tk }) (fun A' R s' hS => ?_) ⟨rfl, rfl, fun tk => wpAny_truthy_bool (h tk)⟩
  obtain ⟨rfl, rfl, hq⟩ := hS
  show wpAny _ _ (dictGet d (.ref a) >>= _) _ _ _
  refine wpAny_bind (get_miss hu h1 h2 hm fun tk => ?_)
  show wpAny _ _ (Builtin.Dict.pendingKey? d (.ref a) >>= _) _ _ _
  exact wpAny_bind (wpAny_pendingKey_other hd (wpAny_pure (hq tk)))
end
end SX
namespace DL
open PySem PySem.Spec PyProof.Rows L2 RT RZ
/-! ### data as keys -/
mutual
def D.nk : D → Option NestedKey
  | .non => some .none
  | .bl b => some (.num (if b then 1 else 0))
  | .int i => some (.num i)
  | .str x => some (.text x)
  | .tup l => match D.nks l with
    | some ks => some (.tup ks)
    | none => none
  | .ref _ => none
def D.nks : List D → Option (List NestedKey)
  | [] => some []
  | d :: l => match D.nk d, D.nks l with
    | some k, some ks => some (k :: ks)
    | _, _ => none
end
section
variable {X : Cx} {pins : List (Addr × Obj)} {σ : L2.St} {s : Shared} {io : List Addr} {H : Hp} {S : Sto}
mutual
theorem nested_of (I : Inv X pins σ H s) : ∀ (d : D) (v : V) (u : Value) (k : NestedKey), RV X.K io H d v → RelV v u → d.nk = some k → NestedIs s.heap k u
  | .non, v, u, k, r, q, e => by
    rw [sNon r] at q
    cases e
    obtain rfl : u = .none := q
    exact .none
  | .bl b, v, u, k, r, q, e => by
    rw [sBl r] at q
    cases e
    obtain rfl : u = .bool b := q
    exact .bool (by cases b <;> rfl)
  | .int i, v, u, k, r, q, e => by
    rw [sIntII r] at q
    cases e
    obtain ⟨t, rfl⟩ := q
    exact .int _ _
  | .str x, v, u, k, r, q, e => by
    rw [sStr r] at q
    cases e
    obtain ⟨t, rfl⟩ := q
    exact .text _ _
  | .tup l, v, u, k, r, q, e => by
    unfold RV at r
    obtain ⟨a, vs, rfl, h1, h2⟩ := r
    obtain rfl : u = .ref a := q
    simp only [D.nk] at e
    split at e
    · rename_i ks hk
      cases e
      obtain ⟨its, rv, ⟨o, ho, hc, n, hd⟩, _⟩ := I.tuple h1
      exact .tup ho hc hd (by simpa using nesteds_of I l vs its ks h2 rv hk)
    · cases e
  | .ref _, v, u, k, r, q, e => by cases e
theorem nesteds_of (I : Inv X pins σ H s) : ∀ (l : List D) (vs : List V) (us : List Value) (ks : List NestedKey), RVs X.K io H l vs → Vals vs us → D.nks l = some ks → NestedAll s.heap ks us
  | [], vs, us, ks, r, q, e => by
    unfold RVs at r
    subst r
    cases q
    cases e
    exact .nil
  | d :: l, vs, us, ks, r, q, e => by
    unfold RVs at r
    obtain ⟨v, w, rfl, r1, r2⟩ := r
    cases q with
    | cons q1 q2 =>
      simp only [D.nks] at e
      split at e
      · rename_i k ks' h1 h2
        cases e
        exact .cons (nested_of I d v _ k r1 q1 h1) (nesteds_of I l w _ ks' r2 q2 h2)
      · cases e
end
end
/-- a number or a text -/
def keyO : D → Option Key
  | .int i => some (.inl i)
  | .str x => some (.inr x)
  | _ => none
/-- a key that no dict of numbers and texts holds -/
def missD (d : D) : Bool := match d with
  | .non => true
  | .tup l => match D.nks l with
    | some ks => decide ((NestedKey.tup ks).depth ≤ 8)
    | none => false
  | _ => false
@[simp] theorem keyO_kD (k : Key) : keyO (kD k) = some k := by cases k <;> rfl
theorem keyO_some {d : D} {k : Key} (h : keyO d = some k) : d = kD k := by
  cases d <;> first | cases h | skip
  all_goals rfl
def lookD (es : List (D × D)) (k : Key) : Option D := (es.find? fun e => decide (keyO e.1 = some k)).map (·.2)
def putD (es : List (D × D)) (k : Key) (d : D) : List (D × D) := if (es.any fun e => decide (keyO e.1 = some k)) = true then es.map (fun e => if keyO e.1 = some k then (e.1, d) else e) else es ++ [(kD k, d)]
section
variable {K : PySem.W.Frag} {io : List Addr} {H : Hp}
theorem RV.key {k : Key} {v : V} (h : RV K io H (kD k) v) : v = kV k := by
  cases k with
  | inl i => exact sIntII h
  | inr x => exact sStr h
theorem mKey (k : Key) : RV K io H (kD k) (kV k) := by
  cases k with
  | inl i => exact mInt
  | inr x => exact mStr
theorem kD_inj {a b : Key} : kD a = kD b ↔ a = b := by
  refine ⟨fun h => ?_, fun h => by rw [h]⟩
  have := congrArg keyO h
  simpa using this
theorem look_rel (k : Key) : ∀ {es : List (D × D)} {kvs : List (Key × V)}, es.map (·.1) = kvs.map (fun p => kD p.1) → RVs K io H (es.map (·.2)) (kvs.map (·.2)) → match lookD es k with
    | some d => ∃ v, valV kvs k = some v ∧ RV K io H d v
    | none => valV kvs k = none
  | [], [], _, _ => rfl
  | [], _ :: _, h, _ => by cases h
  | _ :: _, [], h, _ => by cases h
  | e :: es, p :: kvs, h, r => by
    rw [List.map_cons, List.map_cons] at h r
    injection h with h1 h2
    unfold RVs at r
    obtain ⟨v, w, e0, r1, r2⟩ := r
    injection e0 with e1 e2
    subst e1 e2
    by_cases c : p.1 = k
    · have c2 : keyO e.1 = some k := by rw [h1, keyO_kD, c]
      have : lookD (e :: es) k = some e.2 := by unfold lookD; rw [List.find?_cons, decide_eq_true c2]; rfl
      rw [this]
      exact ⟨p.2, valV_pos c, r1⟩
    · have c2 : ¬ keyO e.1 = some k := by rw [h1, keyO_kD]; simpa using c
      have e3 : lookD (e :: es) k = lookD es k := by unfold lookD; rw [List.find?_cons, decide_eq_false c2]
      rw [e3, valV_neg c]
      exact look_rel k h2 r2
theorem any_rel (k : Key) : ∀ {es : List (D × D)} {kvs : List (Key × V)}, es.map (·.1) = kvs.map (fun p => kD p.1) → (es.any fun e => decide (keyO e.1 = some k)) = (kvs.any fun p => decide (p.1 = k))
  | [], [], _ => rfl
  | [], _ :: _, h => by cases h
  | _ :: _, [], h => by cases h
  | e :: es, p :: kvs, h => by
    rw [List.map_cons, List.map_cons] at h
    injection h with h1 h2
    rw [List.any_cons, List.any_cons, any_rel k h2, h1, keyO_kD]
    simp
theorem put_rel (k : Key) {d : D} {v : V} (rd : RV K io H d v) {es : List (D × D)} {kvs : List (Key × V)} (h : es.map (·.1) = kvs.map (fun p => kD p.1)) (r : RVs K io H (es.map (·.2)) (kvs.map (·.2))) : (putD es k d).map (·.1) = (putK kvs k v).map (fun p => kD p.1) ∧ RVs K io H ((putD es k d).map (·.2)) ((putK kvs k v).map (·.2)) := by
  unfold putD putK
  rw [any_rel k h]
  split
  · have key : ∀ {es : List (D × D)} {kvs : List (Key × V)}, es.map (·.1) = kvs.map (fun p => kD p.1) → RVs K io H (es.map (·.2)) (kvs.map (·.2)) → (es.map (fun e => if keyO e.1 = some k then (e.1, d) else e)).map (·.1) = (kvs.map (fun kv => if kv.1 = k then (kv.1, v) else kv)).map (fun p => kD p.1) ∧ RVs K io H ((es.map (fun e => if keyO e.1 = some k then (e.1, d) else e)).map (·.2)) ((kvs.map (fun kv => if kv.1 = k then (kv.1, v) else kv)).map (·.2)) := by
      intro es
      induction es with
      | nil =>
        intro kvs h r
        cases kvs with
        | nil => exact ⟨rfl, RVs.nil⟩
        | cons _ _ => cases h
      | cons e es ih =>
        intro kvs h r
        cases kvs with
        | nil => cases h
        | cons p kvs =>
          rw [List.map_cons, List.map_cons] at h r
          injection h with h1 h2
          unfold RVs at r
          obtain ⟨v', w, e0, r1, r2⟩ := r
          injection e0 with e1 e2
          subst e1 e2
          obtain ⟨i1, i2⟩ := ih h2 r2
          simp only [List.map_cons]
          by_cases c : p.1 = k
          · have c2 : keyO e.1 = some k := by rw [h1, keyO_kD, c]
            rw [if_pos c, if_pos c2]
            exact ⟨by rw [i1, h1], RVs.cons rd i2⟩
          · have c2 : ¬ keyO e.1 = some k := by rw [h1, keyO_kD]; simpa using c
            rw [if_neg c, if_neg c2]
            exact ⟨by rw [i1, h1], RVs.cons r1 i2⟩
    exact key h r
  · rw [List.map_append, List.map_append, List.map_append, List.map_append, h]
    exact ⟨rfl, r.append (RVs.one rd)⟩
theorem es_len {es : List (D × D)} {kvs : List (Key × V)} (h : es.map (·.1) = kvs.map (fun p => kD p.1)) : es.length = kvs.length := by
  have := congrArg List.length h
  simpa using this
end
/-! ### the operations -/
def dctOf (d : D) (S : Sto) : Option (List (D × D)) := match d with
  | .ref n => match S[n]? with
    | some (.dct es) => some es
    | _ => none
  | _ => none
theorem dct_ref {d : D} {S : Sto} {es : List (D × D)} (h : dctOf d S = some es) : ∃ n, d = .ref n ∧ S[n]? = some (.dct es) := by
  unfold dctOf at h
  split at h
  · split at h
    · cases h
      exact ⟨_, rfl, by assumption⟩
    · cases h
  · cases h
/-- what is found at a key: none where the look-up is not told -/
def findD (es : List (D × D)) (k : D) : Option (Option D) := match keyO k with
  | some kk => some (lookD es kk)
  | none => if missD k = true then some none else none
def gInA (a b : D) (S : Sto) : Option (D × Sto) := match dctOf b S with
  | some es => match findD es a with
    | some r => some (.bl r.isSome, S)
    | none => none
  | none => gIn a b S
def gNotInA (a b : D) (S : Sto) : Option (D × Sto) := match dctOf b S with
  | some es => match findD es a with
    | some r => some (.bl (!r.isSome), S)
    | none => none
  | none => gNotIn a b S
section
variable {X : Cx}
theorem dict_at {pins : List (Addr × Obj)} {σ : L2.St} {s : Shared} {H : Hp} {a : Addr} {kvs : List (Key × V)} (I : Inv X pins σ H s) (h : H a = some (.dK kvs)) : (a == sysModules) = false ∧ ∃ vs, KV kvs vs ∧ s.heap.DictOf (mixKind X.prog X.w) a vs := by
  obtain ⟨_, h1, h2⟩ := dk_rd I.hok (.inl h)
  exact ⟨h1, h2⟩
theorem miss_tup {pins : List (Addr × Obj)} {σ : L2.St} {s : Shared} {io : List Addr} {H : Hp} {d : D} {v : V} {u : Value} (I : Inv X pins σ H s) (r : RV X.K io H d v) (q : RelV v u) (m : missD d = true) : (v = .non ∧ u = .none) ∨ ∃ a ks, u = .ref a ∧ NestedIs s.heap (.tup ks) (.ref a) ∧ (NestedKey.tup ks).depth ≤ 8 := by
  cases d with
  | non =>
    have := sNon r
    subst this
    exact .inl ⟨rfl, q⟩
  | tup l =>
    simp only [missD] at m
    split at m
    · rename_i ks hk
      have h1 := nested_of I (.tup l) v u (.tup ks) r q (by simp only [D.nk, hk])
      unfold RV at r
      obtain ⟨a, vs, rfl, _⟩ := r
      obtain rfl : u = .ref a := q
      exact .inr ⟨a, ks, rfl, h1, of_decide_eq_true m⟩
    · cases m
  | _ => cases m
theorem o_inA (hu : X.A.units + 64 < cLine) : OpD X (compareOp .In) gInA := by
  intro pins s σ H x y v u Q I rx ry h
  obtain ⟨io, S, a, b, d, S', rs, r1, r2, hg, q⟩ := h
  unfold gInA at hg
  split at hg
  · rename_i es hes
    split at hg
    · rename_i r hr
      cases hg
      obtain ⟨n, rfl, hn⟩ := dct_ref hes
      obtain ⟨p, kvs, rfl, _, e1, e2, e3⟩ := rs.dct hn r2
      obtain rfl : u = Value.ref p := ry
      unfold findD at hr
      split at hr
      · rename_i kk hk
        cases hr
        have := keyO_some hk
        subst this
        have := RV.key r1
        subst this
        refine d_in (by omega) I (DGet.k e1) rx fun s' I' => ⟨.bl (lookD es kk).isSome, H, I', ?_, q io H _ Ext.refl rs mBl⟩
        have := look_rel kk e2 e3
        split at this
        · rename_i hl
          obtain ⟨_, e, _⟩ := this
          rw [hl, e]; rfl
        · rename_i hl
          rw [hl, this]; rfl
      · split at hr
        · rename_i hm
          cases hr
          rcases miss_tup I r1 rx hm with ⟨rfl, rfl⟩ | ⟨t, ks, rfl, k1, k2⟩
          · exact d_inNone I (.inl e1) fun s' I' => ⟨.bl false, H, I', rfl, q io H _ Ext.refl rs mBl⟩
          · obtain ⟨hd, vs, _, dd⟩ := dict_at I e1
            show wpAny _ _ (do return Value.bool (← contains (.ref p) (.ref t)) : Sem Value) _ _ s
            exact wpAny_bind (SX.contains_miss (by show X.A.units + 1 + 8 < cLine; omega) k1 k2 hd dd fun tk => wpAny_pure ⟨.bl false, H, I.tok _, rfl, q io H _ Ext.refl rs mBl⟩)
        · cases hr
    · cases hg
  · exact o_in pins s σ H x y v u Q I rx ry ⟨io, S, a, b, d, S', rs, r1, r2, hg, q⟩
theorem o_notinA (hu : X.A.units + 64 < cLine) : OpD X (compareOp .NotIn) gNotInA := by
  intro pins s σ H x y v u Q I rx ry h
  obtain ⟨io, S, a, b, d, S', rs, r1, r2, hg, q⟩ := h
  unfold gNotInA at hg
  split at hg
  · rename_i es hes
    split at hg
    · rename_i r hr
      cases hg
      obtain ⟨n, rfl, hn⟩ := dct_ref hes
      obtain ⟨p, kvs, rfl, _, e1, e2, e3⟩ := rs.dct hn r2
      obtain rfl : u = Value.ref p := ry
      unfold findD at hr
      split at hr
      · rename_i kk hk
        cases hr
        have := keyO_some hk
        subst this
        have := RV.key r1
        subst this
        refine d_notIn (by omega) I (DGet.k e1) rx fun s' I' => ⟨.bl (!(lookD es kk).isSome), H, I', ?_, q io H _ Ext.refl rs mBl⟩
        have := look_rel kk e2 e3
        split at this
        · rename_i hl
          obtain ⟨_, e, _⟩ := this
          rw [hl, e]; rfl
        · rename_i hl
          rw [hl, this]; rfl
      · split at hr
        · rename_i hm
          cases hr
          rcases miss_tup I r1 rx hm with ⟨rfl, rfl⟩ | ⟨t, ks, rfl, k1, k2⟩
          · exact d_notInNone I (.inl e1) fun s' I' => ⟨.bl true, H, I', rfl, q io H _ Ext.refl rs mBl⟩
          · obtain ⟨hd, vs, _, dd⟩ := dict_at I e1
            show wpAny _ _ (do return Value.bool (!(← contains (.ref p) (.ref t))) : Sem Value) _ _ s
            exact wpAny_bind (SX.contains_miss (by show X.A.units + 1 + 8 < cLine; omega) k1 k2 hd dd fun tk => wpAny_pure ⟨.bl true, H, I.tok _, rfl, q io H _ Ext.refl rs mBl⟩)
        · cases hr
    · cases hg
  · exact o_notin pins s σ H x y v u Q I rx ry ⟨io, S, a, b, d, S', rs, r1, r2, hg, q⟩
/-! d.get(k), d.get(k, x) -/
def mDGet : D → List D → Sto → Option (D × Sto)
  | a, [k], S => match dctOf a S with
    | some es => match findD es k with
      | some r => some (r.getD .non, S)
      | none => none
    | none => none
  | a, [k, x], S => match dctOf a S with
    | some es => match findD es k with
      | some r => some (r.getD x, S)
      | none => none
    | none => none
  | _, _, _ => none
theorem look_get {K : PySem.W.Frag} {io : List Addr} {H : Hp} {kk : Key} {es : List (D × D)} {kvs : List (Key × V)} (h : es.map (·.1) = kvs.map (fun p => kD p.1)) (r : RVs K io H (es.map (·.2)) (kvs.map (·.2))) {d : D} {v : V} (rd : RV K io H d v) : RV K io H ((lookD es kk).getD d) ((valV kvs kk).getD v) := by
  have := look_rel kk h r
  split at this
  · rename_i hl
    obtain ⟨_, e, q⟩ := this
    rw [hl, e]; exact q
  · rename_i hl
    rw [hl, this]; exact rd
theorem m_dget (hu : X.A.units + 64 < cLine) : MtD X "dict.get" mDGet := by
  intro pins s σ H x xs v us Q I rx r h
  obtain ⟨io, S, a, ds, d, S', rs, r1, r2, hg, q⟩ := h
  unfold mDGet at hg
  split at hg
  · rename_i k
    split at hg
    · rename_i es hes
      split at hg
      · rename_i w hr
        cases hg
        obtain ⟨n, rfl, hn⟩ := dct_ref hes
        obtain ⟨p, kvs, rfl, _, e1, e2, e3⟩ := rs.dct hn r1
        obtain rfl : v = Value.ref p := rx
        obtain ⟨y, rfl, r3⟩ := rvs1 r2
        obtain ⟨u, rfl, ru⟩ := r.one
        unfold findD at hr
        split at hr
        · rename_i kk hk
          cases hr
          have := keyO_some hk
          subst this
          have := RV.key r3
          subst this
          exact d_get1 (by omega) I (DGet.k e1) ru fun w' s' I' rw => ⟨_, H, I', rw, q io H _ Ext.refl rs (look_get e2 e3 mNon)⟩
        · split at hr
          · rename_i hm
            cases hr
            obtain ⟨hd, vs, _, dd⟩ := dict_at I e1
            rcases miss_tup I r3 ru hm with ⟨rfl, rfl⟩ | ⟨t, ks, rfl, k1, k2⟩
            · obtain ⟨f, hmf, hf⟩ := none_map dd
              refine call_meetsIn PySem.F.slot_dict_get dd.typeIs PySem.F.entry_dict_get (PySem.F.args_dict_get_2 _ _) (meets_dict_get (noneKind X.prog X.w) p (k := none) rfl hd) ⟨f, hmf, ?_⟩
              rw [hf]
              exact ⟨.non, H, I.tok _, rfl, q io H _ Ext.refl rs mNon⟩
            · exact call_meetsIn PySem.F.slot_dict_get dd.typeIs PySem.F.entry_dict_get (PySem.F.args_dict_get_2 _ _) (SX.meets_get_miss hd) ⟨by show X.A.units + 1 + 8 < cLine; omega, ks, vs, k1, k2, dd, fun tk => ⟨.non, H, I.tok _, rfl, q io H _ Ext.refl rs mNon⟩⟩
          · cases hr
      · cases hg
    · cases hg
  · rename_i k z
    split at hg
    · rename_i es hes
      split at hg
      · rename_i w hr
        cases hg
        obtain ⟨n, rfl, hn⟩ := dct_ref hes
        obtain ⟨p, kvs, rfl, _, e1, e2, e3⟩ := rs.dct hn r1
        obtain rfl : v = Value.ref p := rx
        unfold RVs at r2
        obtain ⟨y, ys, rfl, r3, r4⟩ := r2
        obtain ⟨y2, rfl, r5⟩ := rvs1 r4
        cases r with
        | cons ru r' =>
          obtain ⟨u2, rfl, ru2⟩ := Vals.one r'
          unfold findD at hr
          split at hr
          · rename_i kk hk
            cases hr
            have := keyO_some hk
            subst this
            have := RV.key r3
            subst this
            exact d_get2 (by omega) I (DGet.k e1) ru ru2 fun w' s' I' rw => ⟨_, H, I', rw, q io H _ Ext.refl rs (look_get e2 e3 r5)⟩
          · split at hr
            · rename_i hm
              cases hr
              obtain ⟨hd, vs, _, dd⟩ := dict_at I e1
              rcases miss_tup I r3 ru hm with ⟨rfl, rfl⟩ | ⟨t, ks, rfl, k1, k2⟩
              · obtain ⟨f, hmf, hf⟩ := none_map dd
                refine call_meetsIn PySem.F.slot_dict_get dd.typeIs PySem.F.entry_dict_get (PySem.F.args_dict_get_3 _ _ _) (meets_dict_get_default (noneKind X.prog X.w) p (k := none) rfl hd _) ⟨f, hmf, ?_⟩
                rw [hf]
                exact ⟨y2, H, I.tok _, ru2, q io H _ Ext.refl rs r5⟩
              · exact call_meetsIn PySem.F.slot_dict_get dd.typeIs PySem.F.entry_dict_get (PySem.F.args_dict_get_3 _ _ _) (SX.meets_get_miss2 hd _) ⟨by show X.A.units + 1 + 8 < cLine; omega, ks, vs, k1, k2, dd, fun tk => ⟨y2, H, I.tok _, ru2, q io H _ Ext.refl rs r5⟩⟩
            · cases hr
      · cases hg
    · cases hg
  · cases hg
end
end DL
namespace DL
open PySem PySem.Spec PyProof.Rows L2 RT RZ
/-! ### dicts: new ones, what is written and read -/
def dDNew : Ev → Sto → Ans D := fun _ S => some (.ok (.ref S.length), S ++ [.dct []])
def gSetD (a b d : D) (S : Sto) : Option Sto := match a with
  | .ref n => match dctOf (.ref n) S with
    | some es => match keyO b with
      | some k => if es.length < sizeLine then some (S.set n (.dct (putD es k d))) else none
      | none => none
    | none => none
  | _ => none
def gIxD (a b : D) (S : Sto) : Option (D × Sto) := match dctOf a S with
  | some es => match keyO b with
    | some k => match lookD es k with
      | some r => some (r, S)
      | none => none
    | none => none
  | none => none
def cListD : List D → Sto → Option (D × Sto)
  | [d], S => match dctOf d S with
    | some es => some (.ref S.length, S ++ [.lst (es.map (·.1))])
    | none => none
  | _, _ => none
def cLenD : List D → Sto → Option (D × Sto)
  | [d], S => match dctOf d S with
    | some es => some (.int es.length, S)
    | none => none
  | _, _ => none
section
variable {X : Cx} {W : XK} {pos : Pos}
theorem d_dnew : DE X W (.Dict [] [] pos) dDNew := pe_weak pe_dnewK fun σ H Q ⟨io, S, env, r, S', rs, re, hf, hE⟩ => by
  cases hf
  exact fun p hp => hE _ _ _ (Ext.new hp) (rs.dctNew (es := []) (kvs := []) hp rfl RVs.nil) (mRef rs.lastNew)
theorem s_dict (hu : X.A.units + 64 < cLine) : SetD X gSetD := by
  intro pins s σ H o i v ov iv u Q I ro ri rv h
  obtain ⟨io, S, a, b, d, S', rs, r1, r2, r3, hg, q⟩ := h
  unfold gSetD at hg
  split at hg
  · rename_i n
    split at hg
    · rename_i es h1
      split at hg
      · rename_i kk h2
        split at hg
        · rename_i hz
          cases hg
          obtain ⟨n', e0, hn⟩ := dct_ref h1
          cases e0
          have := keyO_some h2
          subst this
          obtain ⟨p, kvs, rfl, e0, e1, e2, e3⟩ := rs.dct hn r1
          have := RV.key r2
          subst this
          obtain ⟨p1, p2⟩ := put_rel kk r3 e2 e3
          obtain ⟨rs', ex⟩ := rs.writeD hn e0 p1 p2
          exact set_dict (by omega) pins s σ H _ _ v ov iv u Q I ro ri rv ⟨p, _, rfl, DPut.k e1 (by rw [← es_len e2]; exact hz), q io _ ex rs'⟩
        · cases hg
      · cases hg
    · cases hg
  · cases hg
theorem i_ixD (hu : X.A.units + 64 < cLine) : IxR X (rM X.K gIxD) := by
  intro value slice pins s σ H x y v u Q I rx ry h hs
  obtain ⟨io, S, a, b, d, S', rs, r1, r2, hg, q⟩ := h
  unfold gIxD at hg
  split at hg
  · rename_i es h1
    split at hg
    · rename_i kk h2
      split at hg
      rotate_left
      · cases hg
      rename_i r hr
      cases hg
      obtain ⟨n, rfl, hn⟩ := dct_ref h1
      have := keyO_some h2
      subst this
      obtain ⟨p, kvs, rfl, _, e1, e2, e3⟩ := rs.dct hn r1
      obtain rfl : v = Value.ref p := rx
      have := RV.key r2
      subst this
      have lk := look_rel kk e2 e3
      rw [hr] at lk
      obtain ⟨z, hz, rz⟩ := lk
      have g : DGet H p (kV kk) (some z) := by rw [← hz]; exact DGet.k e1
      have hT := dict_typeIs I g
      unfold subscriptTail
      refine wpAny_bind ?_
      rw [getitemInPython_of_ne hT.not_modules]
      refine wpAny_bind (wpAny_specialOf hT PySem.F.slot_dict_getitem.lookup ?_)
      have fin : wpAny (model X.prog X.w) X.A (subscripted slice false (.ref p) u) (fun r s₃ => wpAny (model X.prog X.w) X.A (letTemporaryGo value (.ref p) r >>= fun _ => pure r) (EP X pins σ Q) X.xe s₃) X.xe s := by
        rw [hs]
        exact wpAny_operating (wpAny_mono (d_getItem (Q := EP X pins σ Q) (by omega) I g ry fun w' s3 I3 rw' => ⟨z, H, I3, rw', q io H _ Ext.refl rs rz⟩) (fun r s₃ h₃ => wpAny_bind (wpAny_letTemporaryGo (wpAny_pure h₃))) fun _ _ x => x)
      first
        | exact wpAny_pure (wpAny_bind fin)
        | exact wpAny_bind (wpAny_pure (wpAny_bind fin))
        | exact wpAny_bind fin
    · cases hg
  · cases hg
theorem keys_rel {K : PySem.W.Frag} {io : List Addr} {H : Hp} : ∀ {es : List (D × D)} {kvs : List (Key × V)}, es.map (·.1) = kvs.map (fun p => kD p.1) → RVs K io H (es.map (·.1)) (kvs.map fun kv => kV kv.1)
  | [], [], _ => RVs.nil
  | [], _ :: _, h => by cases h
  | _ :: _, [], h => by cases h
  | e :: es, p :: kvs, h => by
    rw [List.map_cons, List.map_cons] at h
    injection h with h1 h2
    rw [List.map_cons, List.map_cons, h1]
    exact RVs.cons (mKey p.1) (keys_rel h2)
theorem c_listD (hc : X.calm = true) : CallD X (.type "list") cListD := by
  intro pins s σ H xs us Q I r h
  obtain ⟨io, S, ds, d, S', rs, rv, hg, q⟩ := h
  unfold cListD at hg
  split at hg
  · split at hg
    · rename_i es hs
      cases hg
      obtain ⟨v, rfl, e⟩ := rvs1 rv
      obtain ⟨n, rfl, hn⟩ := dct_ref hs
      obtain ⟨p, kvs, rfl, e0, e1, e2, e3⟩ := rs.dct hn e
      exact call_listD hc pins s σ H _ us Q I r ⟨p, kvs, rfl, .inl e1, fun t ht => q _ _ _ (Ext.new ht) (rs.lstNew ht (keys_rel e2)) (mRef rs.lastNew)⟩
    · cases hg
  · cases hg
theorem c_lenD : CallD X (.builtin "len") cLenD := by
  intro pins s σ H xs us Q I r h
  obtain ⟨io, S, ds, d, S', rs, rv, hg, q⟩ := h
  unfold cLenD at hg
  split at hg
  · split at hg
    · rename_i es hs
      cases hg
      obtain ⟨v, rfl, e⟩ := rvs1 rv
      obtain ⟨n, rfl, hn⟩ := dct_ref hs
      obtain ⟨p, kvs, rfl, e0, e1, e2, e3⟩ := rs.dct hn e
      exact call_lenD pins s σ H _ us Q I r ⟨p, kvs, rfl, e1, by rw [← es_len e2]; exact q io H _ Ext.refl rs mInt⟩
    · cases hg
  · cases hg
end
/-! ### comprehensions with two fors -/
open Classical in
noncomputable def lcD2 (ok : Sto → Prop) (t : Tg) (gt : Ev → Sto → Ans Bool) (fw1 : Ev → Sto → Ans Wk) (t1 : Tg) (gt1 : Ev → Sto → Ans Bool) (fe : Ev → Sto → Ans D) (vs1 : List Nat) (env : Ev) (n : Nat) : List D → Sto → Option Sto
  | [], S => if ok S then some S else none
  | x :: xs, S => if ok S then match t.put x env with
      | none => none
      | some env1 => match gt env1 S with
        | some (.ok true, S1) => match fw1 env1 S1 with
          | some (.ok w1, S2) => match lcD w1.ok t1 gt1 fe (wipeE env1 vs1) n w1.items S2 with
            | some S3 => lcD2 ok t gt fw1 t1 gt1 fe vs1 env n xs S3
            | none => none
          | _ => none
        | some (.ok false, S1) => lcD2 ok t gt fw1 t1 gt1 fe vs1 env n xs S1
        | _ => none
    else none
noncomputable def dLc2 (fw : Ev → Sto → Ans Wk) (t : Tg) (gt : Ev → Sto → Ans Bool) (fw1 : Ev → Sto → Ans Wk) (t1 : Tg) (gt1 : Ev → Sto → Ans Bool) (fe : Ev → Sto → Ans D) (vs vs1 : List Nat) : Ev → Sto → Ans D := fun env S => bindR (fw env S) fun w S1 =>
  match lcD2 w.ok t gt fw1 t1 gt1 fe vs1 (wipeE env vs) S1.length w.items (S1 ++ [.lst []]) with
  | some S2 => some (.ok (.ref S1.length), S2)
  | none => none
theorem lc2_read {K : PySem.W.Frag} {mg : Str → Option Value} {W : XK} {fw fw1 : Ev → Sto → Ans Wk} {t t1 : Tg} {gt gt1 : Ev → Sto → Ans Bool} {fe : Ev → Sto → Ans D} {vs vs1 : List Nat} (hsub : ∀ j ∈ t.slots, j ∈ vs) (hsub1 : ∀ j ∈ t1.slots, j ∈ vs1) {σ : L2.St} {H : Hp} {Q : VK}
    (h : tM K mg W (dLc2 fw t gt fw1 t1 gt1 fe vs vs1) σ H Q) : tLc2 (tIM K mg W fw) (tTg K t) (tMT K mg E0 gt) (tIM K mg E0 fw1) (tTg K t1) (tMT K mg E0 gt1) (tM K mg E0 fe) vs vs1 σ H Q := by
  obtain ⟨io, S, env, r, S', rs, re, hf, hE⟩ := h
  refine tG_bind rs re hf hE fun w S1 io1 H1 J e1 rs1 re1 ok h1 hE1 => fun D hD => ?_
  cases hl : lcD2 w.ok t gt fw1 t1 gt1 fe vs1 (wipeE env vs) S1.length w.items (S1 ++ [.lst []]) with
  | none => rw [hl] at h1; cases h1
  | some S2 =>
    rw [hl] at h1
    cases h1
    have rs0 := rs1.lstNew hD RVs.nil
    have ex0 : Ext K io1 H1 (io1 ++ [D]) (upd H1 D (.lst [])) := Ext.new hD
    have at0 : (io1 ++ [D])[S1.length]? = some D := rs1.lastNew
    refine ⟨fun i m H => m = w.items.length - i ∧ ∃ io S, Ext K (io1 ++ [D]) (upd H1 D (.lst [])) io H ∧ RS K io S H ∧ lcD2 w.ok t gt fw1 t1 gt1 fe vs1 (wipeE env vs) S1.length (w.items.drop i) S = some S', ⟨_, rfl, _, _, Ext.refl, rs0, by simpa using hl⟩, ?_⟩
    rintro i m H ⟨rfl, io, S, ex, rs, hf⟩
    by_cases hi : i < w.items.length
    · rw [List.drop_eq_getElem_cons hi] at hf
      unfold lcD2 at hf
      split at hf
      · rename_i hok
        obtain ⟨_, hgo⟩ := ok i io S H (ex0.trans ex) rs hok
        obtain ⟨hgo, hyl⟩ := hgo _ (List.getElem?_eq_getElem hi)
        refine .inr ⟨hgo, fun H' => ∃ io S, Ext K (io1 ++ [D]) (upd H1 D (.lst [])) io H' ∧ RS K io S H' ∧ lcD2 w.ok t gt fw1 t1 gt1 fe vs1 (wipeE env vs) S1.length (w.items.drop (i + 1)) S = some S', fun H' q => ⟨_, by omega, rfl, q⟩, fun x H' hy => ?_⟩
        obtain ⟨io', ex', rs', rv⟩ := hyl x H' hy
        have reW : RE K io' H' (wipeE env vs) (wipe σ vs) := ((re1.mono ex0).mono (ex.trans ex')).wipe vs
        split at hf
        · cases hf
        · rename_i env1 hput
          refine ⟨io', _, _, env1, reW, rv, hput, fun σ2 re2 f2 l2 => ⟨wipe_same (fun j hj => f2 j fun z => hj (hsub j z)) l2, ?_⟩⟩
          split at hf
          · rename_i Sa hg
            refine ⟨io', S, env1, .ok true, Sa, rs', re2, hg, fun io3 H3 b e3 rs3 eb => ?_⟩
            cases eb
            rw [if_pos rfl]
            split at hf
            · rename_i w1 Sb hw
              refine ⟨io3, Sa, env1, .ok w1, Sb, rs3, re2.mono e3, hw, fun io4 H4 J1 e4 rs4 ok1 => ?_⟩
              cases hl1 : lcD w1.ok t1 gt1 fe (wipeE env1 vs1) S1.length w1.items Sb with
              | none => rw [hl1] at hf; cases hf
              | some Sc =>
                rw [hl1] at hf
                simp only at hf
                have ex4 : Ext K (io1 ++ [D]) (upd H1 D (.lst [])) io4 H4 := ((ex.trans ex').trans e3).trans e4
                have re4 : RE K io4 H4 env1 σ2 := (re2.mono e3).mono e4
                refine ⟨fun j k H => k = w1.items.length - j ∧ ∃ io S, Ext K io4 H4 io H ∧ RS K io S H ∧ lcD w1.ok t1 gt1 fe (wipeE env1 vs1) S1.length (w1.items.drop j) S = some Sc, ⟨_, rfl, _, _, Ext.refl, rs4, by simpa using hl1⟩, ?_⟩
                rintro j k H5 ⟨rfl, io5, S5, ex5, rs5, hf5⟩
                by_cases hj : j < w1.items.length
                · rw [List.drop_eq_getElem_cons hj] at hf5
                  unfold lcD at hf5
                  split at hf5
                  · rename_i hok1
                    obtain ⟨_, hgo1⟩ := ok1 j io5 S5 H5 ex5 rs5 hok1
                    obtain ⟨hgo1, hyl1⟩ := hgo1 _ (List.getElem?_eq_getElem hj)
                    refine .inr ⟨hgo1, fun H' => ∃ io S, Ext K io4 H4 io H' ∧ RS K io S H' ∧ lcD w1.ok t1 gt1 fe (wipeE env1 vs1) S1.length (w1.items.drop (j + 1)) S = some Sc, fun H' q => ⟨_, by omega, rfl, q⟩, fun x6 H6 hy6 => ?_⟩
                    obtain ⟨io6, ex6, rs6, rv6⟩ := hyl1 x6 H6 hy6
                    have reW1 : RE K io6 H6 (wipeE env1 vs1) (wipe σ2 vs1) := (re4.mono (ex5.trans ex6)).wipe vs1
                    split at hf5
                    · cases hf5
                    · rename_i env2 hput2
                      refine ⟨io6, _, _, env2, reW1, rv6, hput2, fun σ3 re3 f3 l3 => ⟨wipe_same (fun j hj => f3 j fun z => hj (hsub1 j z)) l3, ?_⟩⟩
                      split at hf5
                      · rename_i Sd hg2
                        refine ⟨io6, S5, env2, .ok true, Sd, rs6, re3, hg2, fun io7 H7 b7 e7 rs7 eb7 => ?_⟩
                        cases eb7
                        rw [if_pos rfl]
                        split at hf5
                        · rename_i y Se he
                          refine ⟨io7, Sd, env2, .ok y, Se, rs7, re3.mono e7, he, fun io8 H8 v e8 rs8 rv8 => ?_⟩
                          split at hf5
                          · rename_i acc hacc
                            split at hf5
                            · rename_i hsz
                              have ext8 := ((ex5.trans ex6).trans e7).trans e8
                              have hat8 : io8[S1.length]? = some D := ext8.get (ex4.get at0)
                              have hD8 := rs8.obj _ _ _ hacc hat8
                              obtain ⟨ws, w1', w2⟩ := hD8
                              obtain ⟨rs9, ex9⟩ := rs8.write hacc hat8 (w2.append (RVs.one rv8))
                              exact ⟨ws, w1', by rw [← w2.length]; exact hsz, io8, _, ext8.trans ex9, rs9, hf5⟩
                            · cases hf5
                          · cases hf5
                        · cases hf5
                      · rename_i Sd hg2
                        refine ⟨io6, S5, env2, .ok false, Sd, rs6, re3, hg2, fun io7 H7 b7 e7 rs7 eb7 => ?_⟩
                        cases eb7
                        rw [if_neg Bool.false_ne_true]
                        exact ⟨io7, Sd, (ex5.trans ex6).trans e7, rs7, hf5⟩
                      · cases hf5
                  · cases hf5
                · rw [List.drop_eq_nil_of_le (by omega)] at hf5
                  unfold lcD at hf5
                  split at hf5
                  · rename_i hok1
                    cases hf5
                    exact .inl ⟨(ok1 j io5 _ H5 ex5 rs5 hok1).1 (by omega), io5, _, ex4.trans ex5, rs5, hf⟩
                  · cases hf5
            · cases hf
          · rename_i Sa hg
            refine ⟨io', S, env1, .ok false, Sa, rs', re2, hg, fun io3 H3 b e3 rs3 eb => ?_⟩
            cases eb
            rw [if_neg Bool.false_ne_true]
            exact ⟨io3, Sa, (ex.trans ex').trans e3, rs3, hf⟩
          · cases hf
      · cases hf
    · rw [List.drop_eq_nil_of_le (by omega)] at hf
      unfold lcD2 at hf
      split at hf
      · rename_i hok
        cases hf
        exact .inl ⟨(ok i io _ H (ex0.trans ex) rs hok).1 (by omega), hE1 io H (.ref D) (ex0.trans ex) rs (mRef (ex.get at0))⟩
      · cases hf
section
variable {X : Cx} {W : XK} {elt tg iter tg1 iter1 : Expr} {ifs ifs1 : List Expr} {scope : Scope} {own : List (Str × Nat)} {vs1 : List Nat} {pos : Pos} {fw fw1 : Ev → Sto → Ans Wk} {t t1 : Tg} {gt gt1 : Ev → Sto → Ans Bool} {fe : Ev → Sto → Ans D}
theorem d_lc2 (hc : X.calm = true) (hN : X.N.Nodup) (hi : DI X W tg iter fw) (ok : BlkOk X.N X.env.scope scope own) (hv : ∀ i ∈ vs1, i ∈ own.map (·.2))
    (hg : ∀ (s : Shared) (H : Hp) (C : Addr) (cl : List (Str × Addr)) (fp : List Addr), PG (X.blk s H scope (compEnvC scope cl C X.env) fp) tg (tTg X.K t))
    (ht : ∀ (s : Shared) (H : Hp) (C : Addr) (cl : List (Str × Addr)) (fp : List Addr), PTs (X.blk s H scope (compEnvC scope cl C X.env) fp) ifs (tMT X.K X.mg E0 gt))
    (hi1 : ∀ (s : Shared) (H : Hp) (C : Addr) (cl : List (Str × Addr)) (fp : List Addr), PI (X.blk s H scope (compEnvC scope cl C X.env) fp) tg1 iter1 (tIM X.K X.mg E0 fw1))
    (hg1 : ∀ (s : Shared) (H : Hp) (C : Addr) (cl : List (Str × Addr)) (fp : List Addr), PG (X.blk s H scope (compEnvC scope cl C X.env) fp) tg1 (tTg X.K t1))
    (ht1 : ∀ (s : Shared) (H : Hp) (C : Addr) (cl : List (Str × Addr)) (fp : List Addr), PTs (X.blk s H scope (compEnvC scope cl C X.env) fp) ifs1 (tMT X.K X.mg E0 gt1))
    (he : ∀ (s : Shared) (H : Hp) (C : Addr) (cl : List (Str × Addr)) (fp : List Addr), DE (X.blk s H scope (compEnvC scope cl C X.env) fp) E0 elt fe) (hsub : ∀ j ∈ t.slots, j ∈ own.map (·.2)) (hsub1 : ∀ j ∈ t1.slots, j ∈ vs1) (hs : ∀ x, foldedSetIterable iter X.env x = pure x := by intro _; rfl) (hs1 : ∀ env x, foldedSetIterable iter1 env x = pure x := by intro _ _; rfl) :
    DE X W (.ListComp elt [⟨tg, iter, ifs, 0⟩, ⟨tg1, iter1, ifs1, 0⟩] scope pos) (dLc2 fw t gt fw1 t1 gt1 fe (own.map (·.2)) vs1) := pe_weak (pe_lc2 hc hN hi ok hv hg ht hi1 hg1 ht1 he hs hs1) fun _ _ _ h => lc2_read hsub hsub1 h
end
/-! list.pop(i) -/
def mPopAt : D → List D → Sto → Option (D × Sto)
  | .ref n, [.int i], S => match S[n]? with
    | some (.lst ds) => if 0 ≤ i ∧ i < 2 ^ 63 then match ds[i.toNat]? with
      | some d => some (d, S.set n (.lst (ds.eraseIdx i.toNat)))
      | none => none
      else none
    | _ => none
  | _, _, _ => none
theorem RVs.eraseIdx {K : PySem.W.Frag} {io : List Addr} {H : Hp} {ds : List D} {vs : List V} (h : RVs K io H ds vs) (k : Nat) : RVs K io H (ds.eraseIdx k) (vs.eraseIdx k) := by
  rw [List.eraseIdx_eq_take_drop_succ, List.eraseIdx_eq_take_drop_succ]
  exact (h.take _).append (h.drop _)
theorem m_popAt {X : Cx} : MtD X "list.pop" mPopAt := by
  intro pins s σ H x xs v us Q I rx r h
  obtain ⟨io, S, a, ds, d, S', rs, r1, r2, hg, q⟩ := h
  unfold mPopAt at hg
  split at hg
  · split at hg
    · rename_i es hs
      split at hg
      · rename_i hi
        split at hg
        · rename_i d hd
          cases hg
          obtain ⟨p, vs, rfl, e1, e2, e3⟩ := rs.lst hs r1
          obtain ⟨y, rfl, r3⟩ := rvs1 r2
          have := sIntII r3
          subst this
          obtain ⟨w, w1, w2⟩ := e3.get hd
          obtain ⟨rs', ex⟩ := rs.write hs e1 (RVs.eraseIdx e3 _)
          have hl : vs.length = es.length := e3.length.symm
          have hlt : _ < es.length := (List.getElem?_eq_some_iff.mp hd).1
          exact mt_popAt pins s σ H _ _ v us Q I rx r ⟨p, vs, _, _, w, rfl, rfl, e2, by omega, hi.2, seqIndex_of hi.1 (by omega), w1, q io _ _ ex rs' (RV.mono ex _ _ w2)⟩
        · cases hg
      · cases hg
    · cases hg
  · cases hg
end DL
namespace DL
open PySem PySem.Spec PyProof.Rows L2 RT RZ
/-! ### tuples whose object is known: made by tuple(list), read by a loop and by dict() -/
def rotOf (d : D) (S : Sto) : Option (List D) := match d with
  | .ref n => match S[n]? with
    | some (.rot ds) => some ds
    | _ => none
  | _ => none
theorem rot_ref {d : D} {S : Sto} {ds : List D} (h : rotOf d S = some ds) : ∃ n, d = .ref n ∧ S[n]? = some (.rot ds) := by
  unfold rotOf at h
  split at h
  · split at h
    · cases h
      exact ⟨_, rfl, by assumption⟩
    · cases h
  · cases h
def wSeqX (fe : Ev → Sto → Ans D) : Ev → Sto → Ans Wk := fun env S => bindR (fe env S) fun d S1 => match rotOf d S1 with
  | some ds => some (.ok ⟨fun _ => True, ds⟩, S1)
  | none => none
def cTupleX : List D → Sto → Option (D × Sto)
  | [.ref n], S => match seqOf (.ref n) S with
    | some ds => some (.ref S.length, S ++ [.rot ds])
    | none => none
  | _, _ => none
/-- the pairs of dict(..) -/
def pairsD : List D → Option (List (D × D))
  | [] => some []
  | .tup [k, v] :: r => match keyO k, pairsD r with
    | some _, some es => some ((k, v) :: es)
    | _, _ => none
  | _ => none
def mergeD (es ps : List (D × D)) : List (D × D) := ps.foldl (fun acc e => match keyO e.1 with
  | some k => putD acc k e.2
  | none => acc) es
def cDictX : List D → Sto → Option (D × Sto)
  | [d], S => match rotOf d S with
    | some ds => match pairsD ds with
      | some ps => some (.ref S.length, S ++ [.dct (mergeD [] ps)])
      | none => none
    | none => none
  | _, _ => none
def cDictP : List D → Sto → Option (D × Sto)
  | [.ref n], S => match seqOf (.ref n) S with
    | some ds => match pairsD ds with
      | some ps => some (.ref S.length, S ++ [.dct (mergeD [] ps)])
      | none => none
    | none => none
  | _, _ => none
section
variable {K : PySem.W.Frag} {io : List Addr} {H : Hp}
theorem pairs_rel : ∀ {ds : List D} {vs : List V} {ps : List (D × D)}, RVs K io H ds vs → pairsD ds = some ps → ∃ (as : List Addr) (kvs : List (Key × V)), vs = as.map V.ref ∧ Paired (fun p kv => SqT K H p [kV kv.1, kv.2]) as kvs ∧ ps.map (·.1) = kvs.map (fun p => kD p.1) ∧ RVs K io H (ps.map (·.2)) (kvs.map (·.2))
  | [], vs, ps, r, h => by
    unfold RVs at r
    subst r
    cases h
    exact ⟨[], [], rfl, .nil, rfl, RVs.nil⟩
  | d :: ds, vs, ps, r, h => by
    unfold RVs at r
    obtain ⟨v, w, rfl, r1, r2⟩ := r
    unfold pairsD at h
    split at h
    · rename_i e0; cases e0
    · rename_i k x r e0
      cases e0
      split at h
      · rename_i kk es hk hes
        cases h
        have := keyO_some hk
        subst this
        obtain ⟨as, kvs, rfl, p1, p2, p3⟩ := pairs_rel r2 hes
        unfold RV at r1
        obtain ⟨a, us, rfl, s1, s2⟩ := r1
        unfold RVs at s2
        obtain ⟨u1, us', rfl, t1, t2⟩ := s2
        obtain ⟨u2, rfl, t3⟩ := rvs1 t2
        have := RV.key t1
        subst this
        refine ⟨a :: as, (kk, u2) :: kvs, rfl, .cons s1 p1, ?_, ?_⟩
        · rw [List.map_cons, List.map_cons, p2]
        · exact RVs.cons t3 p3
      · cases h
    · cases h
theorem merge_rel : ∀ {ps es : List (D × D)} {kvs acc : List (Key × V)}, ps.map (·.1) = kvs.map (fun p => kD p.1) → RVs K io H (ps.map (·.2)) (kvs.map (·.2)) → es.map (·.1) = acc.map (fun p => kD p.1) → RVs K io H (es.map (·.2)) (acc.map (·.2)) →
    (mergeD es ps).map (·.1) = (mergeK acc kvs).map (fun p => kD p.1) ∧ RVs K io H ((mergeD es ps).map (·.2)) ((mergeK acc kvs).map (·.2))
  | [], es, [], acc, _, _, h, r => ⟨h, r⟩
  | [], _, _ :: _, _, h, _, _, _ => by cases h
  | _ :: _, _, [], _, h, _, _, _ => by cases h
  | e :: ps, es, p :: kvs, acc, h, r, h', r' => by
    rw [List.map_cons, List.map_cons] at h r
    injection h with h1 h2
    unfold RVs at r
    obtain ⟨v, w, e0, r1, r2⟩ := r
    injection e0 with e1 e2
    subst e1 e2
    obtain ⟨p1, p2⟩ := put_rel p.1 r1 h' r'
    have e3 : mergeD es (e :: ps) = mergeD (putD es p.1 e.2) ps := by
      unfold mergeD
      rw [List.foldl_cons, h1, keyO_kD]
    have e4 : mergeK acc (p :: kvs) = mergeK (putK acc p.1 p.2) kvs := rfl
    rw [e3, e4]
    exact merge_rel h2 r2 p1 p2
end
section
variable {X : Cx} {W : XK} {e tg : Expr} {fe : Ev → Sto → Ans D} {pos : Pos}
theorem di_seqX (he : DE X W e fe) : DI X W tg e (wSeqX fe) := pi_weak (pi_tup he) fun σ H R ⟨io, S, env, r, S', rs, re, hf, hE⟩ => by
  unfold wSeqX at hf
  refine tG_bind rs re hf hE fun d S1 io1 H1 v e1 rs1 re1 rv1 h1 hE1 => ?_
  split at h1
  · rename_i ds hd
    cases h1
    obtain ⟨n, rfl, hn⟩ := rot_ref hd
    obtain ⟨a, vs, rfl, e2, e3, e4⟩ := rs1.rot hn rv1
    exact ⟨a, rfl, ⟨vs, e3.sq⟩, hE1.now rs1 (ItOk.tup _ e3.sq e4)⟩
  · cases h1
theorem c_tupleX : CallD X (.type "tuple") cTupleX := by
  intro pins s σ H xs us Q I r h
  obtain ⟨io, S, ds, d, S', rs, rv, hg, q⟩ := h
  unfold cTupleX at hg
  split at hg
  · split at hg
    · rename_i es hs
      cases hg
      obtain ⟨v, rfl, e⟩ := rvs1 rv
      unfold RV at e
      obtain ⟨a, e1, rfl⟩ := e
      have hh : ∃ vs, SqL X.K H a vs ∧ RVs X.K io H es vs := by
        rcases seq_ref hs with h | h
        · obtain ⟨vs, w1, w2⟩ := rs.obj _ _ _ h e1
          exact ⟨vs, .inl (.inl w1), w2⟩
        · obtain ⟨vs, w1, w2⟩ := rs.obj _ _ _ h e1
          exact ⟨vs, w1.sq, w2⟩
      obtain ⟨vs, e2, hv⟩ := hh
      obtain ⟨u, rfl, rx⟩ := vals1 r
      cases rx
      obtain ⟨its, r', pl, hz⟩ := I.list e2
      have hlen := r'.length
      refine call_tuple_list pl.isList (fun h' kp => ?_) (by simp only [List.size_toArray] <;> omega)
      have I1 : Inv X pins σ H { s with heap := h' } := I.kept (t' := s.toks) kp
      have hn : H h'.objs.size = none := I1.hok.fresh (Nat.le_refl _)
      have I2 : Inv X pins σ (upd H h'.objs.size (.frz { cls := .type "tuple", data := .seq its.toArray } (.tup vs))) { s with heap := h'.push { cls := .type "tuple", data := .seq its.toArray } } :=
        I1.laid (t' := s.toks) (fun b o e => Heap.get?_push_of_some _ e) (Nat.le_refl _) (show ObjOk X.prog X.w _ _ _ (.frz { cls := .type "tuple", data := .seq its.toArray } (.tup vs)) from ⟨Heap.get?_push_size _ rfl, hz, its, r', IsTup.new _ _⟩)
      exact ⟨.ref h'.objs.size, _, I2, rfl, q _ _ _ (Ext.new hn) (rs.rotNew hn rfl rfl rfl r' hv) (mRef rs.lastNew)⟩
    · cases hg
  · cases hg
theorem pairs2_of {pins : List (Addr × Obj)} {σ : L2.St} {H : Hp} {s : Shared} (I : Inv X pins σ H s) : ∀ {ps : List Addr} {kvs : List (Key × V)}, Paired (fun p kv => SqT X.K H p [kV kv.1, kv.2]) ps kvs →
    ∃ (prs : List (Value × Value)) (krs : List (Key × Value)), KV kvs krs ∧ prs.length = ps.length ∧ krs.length = ps.length ∧ ∀ (j : Nat) (k v : Value), prs[j]? = some (k, v) → ∃ (b : Addr) (q : Key), ps[j]? = some b ∧ IsTup s.heap b #[k, v] ∧ krs[j]? = some (q, v) ∧ keyIs q k = true
  | _, _, .nil => ⟨[], [], .nil, rfl, rfl, fun j k v e => by simp at e⟩
  | _, _, .cons (a := p) (b := kv) h t => by
    obtain ⟨prs, krs, r, hl, hl2, hp⟩ := pairs2_of I t
    obtain ⟨its, rv, ht, _⟩ := I.tuple h
    obtain ⟨u, y, ei, ru, ry⟩ := vals2 rv
    subst ei
    refine ⟨(u, y) :: prs, (kv.1, y) :: krs, .cons ⟨rfl, ry⟩ r, by simp [hl], by simp [hl2], fun j k v e => ?_⟩
    cases j with
    | zero =>
      have e' : (u, y) = (k, v) := Option.some.inj e
      cases e'
      exact ⟨p, kv.1, rfl, ht, rfl, kV_is (P := X.prog) (w := X.w) ru⟩
    | succ j =>
      obtain ⟨b, q, e1, e2, e3, e4⟩ := hp j k v (by simpa using e)
      exact ⟨b, q, by simpa using e1, e2, by simpa using e3, e4⟩
theorem c_dictX (hc : X.calm = true) : CallD X (.type "dict") cDictX := by
  intro pins s σ H xs us Q I r h
  obtain ⟨io, S, ds, d, S', rs, rv, hg, q⟩ := h
  unfold cDictX at hg
  split at hg
  · split at hg
    · rename_i es hs
      split at hg
      · rename_i ps hps
        cases hg
        obtain ⟨v, rfl, e⟩ := rvs1 rv
        obtain ⟨n, rfl, hn⟩ := rot_ref hs
        obtain ⟨a, vs, rfl, e1, ⟨o, its, m, g1, g2, g3, g4, g5⟩, e4⟩ := rs.rot hn e
        obtain ⟨u, rfl, rx⟩ := vals1 r
        cases rx
        obtain ⟨as, kvs, rfl, p1, p2, p3⟩ := pairs_rel e4 hps
        obtain ⟨hget, hz, _⟩ := I.hok a _ g1
        have ei := refs_at g5
        subst ei
        obtain ⟨prs, krs, k1, k2, k3, k4⟩ := pairs2_of I p1
        rw [List.length_map] at hz
        have PA := PairArg.tuple (prog := X.prog) (w := X.w) a (as.map Value.ref).toArray (fun j => as.getD j s.heap.objs.size) prs
        refine PySem.call_dict_pairs (knd := mixKind X.prog X.w) (kvs := krs) PA (I.ok.hd hc) ⟨⟨o, m, hget, g2, g3, g4⟩, by simp [k2], fun j k v e => ?_⟩ ⟨by rw [k3, k2], fun i key v e => ?_⟩ (by rw [k2]; exact hz) fun h' tk hd' hk => ?_
        · obtain ⟨b, qq, x1, x2, x3, x4⟩ := k4 j k v e
          have x1' : as.getD j s.heap.objs.size = b := by rw [List.getD_eq_getElem?_getD, x1]; rfl
          refine ⟨?_, ?_⟩
          · show (as.map Value.ref).toArray[j]? = some (.ref (as.getD j s.heap.objs.size))
            rw [x1']
            simp [x1]
          · show PairAt s.heap (as.getD j s.heap.objs.size) k v
            rw [x1']
            exact .inl x2
        · obtain ⟨b, qq, x1, x2, x3, x4⟩ := k4 i key v e
          exact ⟨qq, x3, x4⟩
        · have hm : (s.heap.objs.size == sysModules) = false := beq_eq_false_iff_ne.mpr (Nat.ne_of_gt I.big)
          have hlen : (mergeK [] kvs).length ≤ sizeLine := by
            refine Nat.le_trans (length_mergeK kvs []) ?_
            have := k1.length
            rw [List.length_nil, Nat.zero_add, this, k3]
            exact hz
          have hn' := I.hok.fresh (Nat.le_refl s.heap.objs.size)
          obtain ⟨w1, w2⟩ := merge_rel p2 p3 (es := []) (acc := []) rfl RVs.nil
          exact ⟨.ref s.heap.objs.size, upd H s.heap.objs.size (.dK (mergeK [] kvs)), I.laid (t' := tk) (fun b o e => hk b o (by simp) e) (Nat.le_refl _) (show ObjOk X.prog X.w _ _ _ (.dK (mergeK [] kvs)) from ⟨hlen, hm, merged [] krs, KV.merge k1 .nil, hd'⟩), rfl, q _ _ _ (Ext.new hn') (rs.dctNew hn' w1 w2) (mRef rs.lastNew)⟩
      · cases hg
    · cases hg
  · cases hg
end
/-! ### displays {k: v, ..} -/
def dPairs : List ((Ev → Sto → Ans D) × (Ev → Sto → Ans D)) → Ev → Sto → Ans (List (D × D))
  | [], _, S => some (.ok [], S)
  | p :: r, env, S => bindR (p.1 env S) fun k S1 => bindR (p.2 env S1) fun v S2 => bindR (dPairs r env S2) fun ps S3 => some (.ok ((k, v) :: ps), S3)
def dDisp (fs : List ((Ev → Sto → Ans D) × (Ev → Sto → Ans D))) : Ev → Sto → Ans D := fun env S => bindR (dPairs fs env (S ++ [.dct []])) fun ps S1 => match S1[S.length]? with
  | some (.dct []) => if ps.all (fun e => (keyO e.1).isSome) = true ∧ ps.length ≤ 15 then some (.ok (.ref S.length), S1.set S.length (.dct (mergeD [] ps))) else none
  | _ => none
theorem bindR_assoc {α β γ : Type} (x : Ans α) (f : α → Sto → Ans β) (k : β → Sto → Ans γ) : bindR (bindR x f) k = bindR x fun a S => bindR (f a S) k := by
  cases x with
  | none => rfl
  | some q =>
    obtain ⟨r, S⟩ := q
    cases r <;> rfl
section
variable {K : PySem.W.Frag} {mg : Str → Option Value} {W : XK}
def trP (K : PySem.W.Frag) (mg : Str → Option Value) (W : XK) (p : (Ev → Sto → Ans D) × (Ev → Sto → Ans D)) : TE × TE := (tM K mg W p.1, tM K mg W p.2)
theorem tPairs_of : ∀ (fs : List ((Ev → Sto → Ans D) × (Ev → Sto → Ans D))) {io : List Addr} {S S' : Sto} {env : Ev} {σ : L2.St} {H : Hp} {k : List (D × D) → Sto → Ans D} {r : R D} {Q : List (V × V) → Hp → Prop} {Q0 : VK}, RS K io S H → RE K io H env σ → bindR (dPairs fs env S) k = some (r, S') → EndG K mg W (RV K) io H r S' Q0 →
    (∀ ps S1 io1 H1 vs, Ext K io H io1 H1 → RS K io1 S1 H1 → RVs K io1 H1 (ps.map (·.1)) (vs.map (·.1)) → RVs K io1 H1 (ps.map (·.2)) (vs.map (·.2)) → k ps S1 = some (r, S') → EndG K mg W (RV K) io1 H1 r S' Q0 → Q vs H1) → tPairs (fs.map (trP K mg W)) σ H Q
  | [], io, S, S', env, σ, H, k, r, Q, Q0, rs, re, hf, hE, hk => hk [] S io H [] Ext.refl rs RVs.nil RVs.nil hf hE
  | p :: fs, io, S, S', env, σ, H, k, r, Q, Q0, rs, re, hf, hE, hk => by
    unfold dPairs at hf
    rw [bindR_assoc] at hf
    refine tG_bind rs re hf hE fun a S1 io1 H1 v e1 rs1 re1 rv1 h1 hE1 => ?_
    rw [bindR_assoc] at h1
    refine tG_bind rs1 re1 h1 hE1 fun b S2 io2 H2 w e2 rs2 re2 rv2 h2 hE2 => ?_
    rw [bindR_assoc] at h2
    refine tPairs_of fs rs2 re2 h2 hE2 fun ps S3 io3 H3 vs e3 rs3 q1 q2 h3 hE3 => ?_
    exact hk ((a, b) :: ps) S3 io3 H3 ((v, w) :: vs) ((e1.trans e2).trans e3) rs3 (RVs.cons (RV.mono (e2.trans e3) _ _ rv1) q1) (RVs.cons (RV.mono e3 _ _ rv2) q2) h3 hE3
theorem keyd_rel {io : List Addr} {H : Hp} : ∀ {ps : List (D × D)} {vs : List (V × V)}, (ps.all fun e => (keyO e.1).isSome) = true → RVs K io H (ps.map (·.1)) (vs.map (·.1)) → RVs K io H (ps.map (·.2)) (vs.map (·.2)) → ∃ kvs : List (Key × V), vs = kvs.map (fun kv => (kV kv.1, kv.2)) ∧ ps.map (·.1) = kvs.map (fun p => kD p.1) ∧ RVs K io H (ps.map (·.2)) (kvs.map (·.2))
  | [], vs, _, r, _ => by
    unfold RVs at r
    cases vs with
    | nil => exact ⟨[], rfl, rfl, RVs.nil⟩
    | cons _ _ => cases r
  | e :: ps, vs, h, r, r' => by
    rw [List.map_cons] at r r'
    unfold RVs at r r'
    obtain ⟨v, w, e0, r1, r2⟩ := r
    obtain ⟨v', w', e1, r3, r4⟩ := r'
    cases vs with
    | nil => cases e0
    | cons x vs =>
      cases e0
      cases e1
      rw [List.all_cons, Bool.and_eq_true] at h
      obtain ⟨kk, hk⟩ := Option.isSome_iff_exists.mp h.1
      have hk' := keyO_some hk
      rw [hk'] at r1
      have hv := RV.key r1
      obtain ⟨kvs, rfl, p1, p2⟩ := keyd_rel h.2 r2 r4
      refine ⟨(kk, x.2) :: kvs, ?_, ?_, RVs.cons r3 p2⟩
      · rw [List.map_cons]
        obtain ⟨x1, x2⟩ := x
        simp only at hv
        rw [hv]
      · rw [List.map_cons, List.map_cons, p1, hk']
end
section
variable {X : Cx} {W : XK} {pos : Pos}
theorem dp_nil : PPs X pos [] [] ([].map (trP X.K X.mg W)) := pps_nil
theorem dp_cons {k v : Expr} {ks : List (Option Expr)} {vs : List Expr} {fk fv : Ev → Sto → Ans D} {fs : List ((Ev → Sto → Ans D) × (Ev → Sto → Ans D))} (hk : DE X W k fk) (hv : DE X W v fv) (hr : PPs X pos ks vs (fs.map (trP X.K X.mg W))) : PPs X pos (some k :: ks) (v :: vs) (((fk, fv) :: fs).map (trP X.K X.mg W)) := pps_cons hk hv hr
theorem d_disp {keys : List (Option Expr)} {values : List Expr} {fs : List ((Ev → Sto → Ans D) × (Ev → Sto → Ans D))} (h : PPs X pos keys values (fs.map (trP X.K X.mg W))) (hall : keys.all (·.isSome) = true := by rfl) (hl : keys.length = values.length := by rfl) (h0 : keys ≠ [] := by exact List.cons_ne_nil _ _) (h15 : keys.length ≤ 15 := by decide) :
    DE X W (.Dict keys values pos) (dDisp fs) := pe_weak (pe_disp h hall hl h0 h15) fun σ H Q ⟨io, S, env, r, S', rs, re, hf, hE⟩ p hp => by
  have rs0 := rs.dctNew (es := []) (kvs := []) hp rfl RVs.nil
  have ex0 : Ext X.K io H (io ++ [p]) (upd H p (.dK [])) := Ext.new hp
  have at0 : (io ++ [p])[S.length]? = some p := rs.lastNew
  refine tPairs_of fs rs0 (re.mono ex0) hf (hE.mono ex0) fun ps S1 io1 H1 vs e1 rs1 q1 q2 h1 hE1 => ?_
  split at h1
  · rename_i hS
    split at h1
    · rename_i hc
      cases h1
      obtain ⟨kvs0, g1, g2, _⟩ := rs1.obj _ _ _ hS (e1.get at0)
      have : kvs0 = [] := by
        cases kvs0 with
        | nil => rfl
        | cons _ _ => cases g2
      subst this
      obtain ⟨kvs, rfl, p1, p2⟩ := keyd_rel hc.1 q1 q2
      obtain ⟨w1, w2⟩ := merge_rel p1 p2 (es := []) (acc := []) rfl RVs.nil
      obtain ⟨rs', ex⟩ := rs1.writeD hS (e1.get at0) w1 w2
      refine ⟨g1, kvs, rfl, ?_, hE1 _ _ _ ex rs' (mRef (e1.get at0))⟩
      have := congrArg List.length p1
      simp at this
      omega
    · cases h1
  · cases h1
end
end DL
namespace SX
open PySem PySem.Spec PyProof.Rows
/-! ### a zip of two tuples that has given out a tuple, and as an argument of dict() -/
section
variable {prog : Program} {w : World} {A : Around} {E : Value → Shared → Prop} {s : Shared}
/-- its parts, while the tuple T is out -/
structure HeldT (h : Heap) (z TI TO T i1 i2 l1 l2 : Addr) (f : Bool) (k : Nat) (xs ys : Array Value) : Prop where
  zip : IsZipHeld h z TI TO T f
  out : ∃ oT, h.get? T = some oT
  its : IsPair h TI (.ref i1) (.ref i2)
  it1 : h.IsTupleIter i1 l1 k
  it2 : h.IsTupleIter i2 l2 k
  tu1 : h.IsTuple l1 xs
  tu2 : h.IsTuple l2 ys
theorem held_item {z TI TO T i1 i2 l1 l2 : Addr} {f : Bool} {k : Nat} {xs ys : Array Value} {x y : Value} {Q : Option Value → Shared → Prop} (D : ZipApart z TI TO i1 i2 l1 l2) (hd : HeldT s.heap z TI TO T i1 i2 l1 l2 f k xs ys) (hx : xs[k]? = some x) (hy : ys[k]? = some y)
    (hQ : ∀ h', IsZipHeld h' z TI TO T true → h'.IsTupleIter i1 l1 (k + 1) → h'.IsTupleIter i2 l2 (k + 1) → IsPair h' s.heap.objs.size x y →
      (∀ c o, c ≠ z → c ≠ i1 → c ≠ i2 → s.heap.get? c = some o → h'.get? c = some o) → Q (some (.ref s.heap.objs.size)) { s with heap := h' }) : wpAny (model prog w) A (pyNext (.ref z)) Q E s := by
  obtain ⟨hz, ⟨oT, hT⟩, hTI, h1, h2, hl1, hl2⟩ := hd
  have ty : s.TypeIs (.ref z) "zip" := ⟨_, hz, rfl⟩
  unfold pyNext
  refine wpAny_bind (wpAny_attempt (wpAny_callSpecial?_slot (name := Str.ofString "__next__") ty F.slot_zip_next (wpAny_call_entry F.slot_zip_next ty F.entry_zip_next ?_ (F.args_zip_next_1 _))))
  show wpAny _ _ (field (.ref z) 2 >>= _) _ _ _
  refine wpAny_bind (wpAny_field hz rfl (x := .bool false) rfl ?_)
  show wpAny _ _ (field (.ref z) 3 >>= _) _ _ _
  refine wpAny_bind (wpAny_field hz rfl (x := .ref TI) rfl (wpAny_bind (wpAny_seqItems hTI rfl ?_)))
  show wpAny _ _ (Builtin.SmallTypes.ownedTupleIsFree (.ref z) >>= _) _ _ _
  refine wpAny_bind (wpAny_tupleHeld_zip hz hT fun g hz' hs => ?_)
  simp only [Bool.false_eq_true, if_false]
  refine wpAny_bind ?_
  rw [← Array.forIn_toList]
  simp only [List.forIn_cons, List.forIn_nil]
  refine wpAny_bind (wpAny_bind (wpAny_holding ?_))
  show wpAny _ _ (Builtin.SmallTypes.nextOf (.ref i1) >>= _) _ _ _
  refine wpAny_bind (RZ.nextOf_tuple_item (s := { s with heap := g }) (h1.extBut hs.extBut D.i1z) (hl1.extBut hs.extBut D.l1z) hx fun g2 a1 hs2 => wpAny_pure (wpAny_pure ?_))
  refine wpAny_bind (wpAny_bind (wpAny_holding ?_))
  show wpAny _ _ (Builtin.SmallTypes.nextOf (.ref i2) >>= _) _ _ _
  refine wpAny_bind (RZ.nextOf_tuple_item (s := { s with heap := g2 }) ((h2.extBut hs.extBut D.i2z).extBut hs2.extBut D.i12.symm) ((hl2.extBut hs.extBut D.l2z).extBut hs2.extBut D.l2i1) hy fun g3 a2 hs3 => wpAny_pure (wpAny_pure (wpAny_pure ?_)))
  show wpAny _ _ (newTuple [x, y] >>= _) _ _ _
  refine wpAny_bind (wpAny_newTuple (wpAny_pure ⟨_, rfl, ?_⟩))
  have sz : g3.objs.size = s.heap.objs.size := by rw [hs3.1, hs2.1, hs.1]
  have zz : IsZipHeld g3 z TI TO T true := hs3.extBut _ _ D.i2z.symm (hs2.extBut _ _ D.i1z.symm hz')
  have a1' : g3.IsTupleIter i1 l1 (k + 1) := a1.extBut hs3.extBut D.i12
  have np : IsPair (g3.push { cls := .type "tuple", data := .seq #[x, y] }) g3.objs.size x y := Heap.get?_push_size _ rfl
  show wpAny _ _ (pure (some (Value.ref g3.objs.size))) _ _ _
  rw [sz] at np ⊢
  exact wpAny_pure (hQ _ (Heap.get?_push_of_some _ zz) (a1'.at fun o e => Heap.get?_push_of_some _ e) (a2.at fun o e => Heap.get?_push_of_some _ e) np fun c o c1 c2 c3 e => Heap.get?_push_of_some _ (hs3.extBut _ _ c3 (hs2.extBut _ _ c2 (hs.extBut _ _ c1 e))))
theorem held_end {z TI TO T i1 i2 l1 l2 : Addr} {f : Bool} {k : Nat} {xs ys : Array Value} {Q : Option Value → Shared → Prop} (hh : A.handled = none) (D : ZipApart z TI TO i1 i2 l1 l2) (hd : HeldT s.heap z TI TO T i1 i2 l1 l2 f k xs ys) (hend : xs[k]? = none ∨ ys[k]? = none)
    (hQ : ∀ h', (∀ c o, c ≠ z → c ≠ i1 → c ≠ i2 → s.heap.get? c = some o → h'.get? c = some o) → Q none { s with heap := h' }) : wpAny (model prog w) A (pyNext (.ref z)) Q E s := by
  obtain ⟨hz, ⟨oT, hT⟩, hTI, h1, h2, hl1, hl2⟩ := hd
  have ty : s.TypeIs (.ref z) "zip" := ⟨_, hz, rfl⟩
  unfold pyNext
  refine wpAny_bind (wpAny_attempt (wpAny_callSpecial?_slot (name := Str.ofString "__next__") ty F.slot_zip_next (wpAny_call_entry F.slot_zip_next ty F.entry_zip_next ?_ (F.args_zip_next_1 _))))
  show wpAny _ _ (field (.ref z) 2 >>= _) _ _ _
  refine wpAny_bind (wpAny_field hz rfl (x := .bool false) rfl ?_)
  show wpAny _ _ (field (.ref z) 3 >>= _) _ _ _
  refine wpAny_bind (wpAny_field hz rfl (x := .ref TI) rfl (wpAny_bind (wpAny_seqItems hTI rfl ?_)))
  show wpAny _ _ (Builtin.SmallTypes.ownedTupleIsFree (.ref z) >>= _) _ _ _
  refine wpAny_bind (wpAny_tupleHeld_zip hz hT fun g hz' hs => ?_)
  simp only [Bool.false_eq_true, if_false]
  refine wpAny_bind ?_
  rw [← Array.forIn_toList]
  simp only [List.forIn_cons, List.forIn_nil]
  refine wpAny_bind (wpAny_bind (wpAny_holding ?_))
  show wpAny _ _ (Builtin.SmallTypes.nextOf (.ref i1) >>= _) _ _ _
  cases hx : xs[k]? with
  | none =>
    refine wpAny_bind (RZ.nextOf_tuple_end (s := { s with heap := g }) hh (h1.extBut hs.extBut D.i1z) (hl1.extBut hs.extBut D.l1z) hx fun g2 e hs2 he => ?_)
    obtain ⟨o, ho, hc⟩ := he
    refine wpAny_bind (wpAny_isInstance (T := "StopIteration") (b := true) ⟨o, ho, hc⟩ isSubtype_stop ?_)
    exact wpAny_pure (hQ _ fun c o c1 c2 _ q => hs2 _ _ c2 (hs.extBut _ _ c1 q))
  | some x =>
    have hy : ys[k]? = none := hend.resolve_left (by rw [hx]; exact fun z => by cases z)
    refine wpAny_bind (RZ.nextOf_tuple_item (s := { s with heap := g }) (h1.extBut hs.extBut D.i1z) (hl1.extBut hs.extBut D.l1z) hx fun g2 a1 hs2 => wpAny_pure (wpAny_pure ?_))
    refine wpAny_bind (wpAny_bind (wpAny_holding ?_))
    show wpAny _ _ (Builtin.SmallTypes.nextOf (.ref i2) >>= _) _ _ _
    refine wpAny_bind (RZ.nextOf_tuple_end (s := { s with heap := g2 }) hh ((h2.extBut hs.extBut D.i2z).extBut hs2.extBut D.i12.symm) ((hl2.extBut hs.extBut D.l2z).extBut hs2.extBut D.l2i1) hy fun g3 e hs3 he => ?_)
    obtain ⟨o, ho, hc⟩ := he
    refine wpAny_bind (wpAny_isInstance (T := "StopIteration") (b := true) ⟨o, ho, hc⟩ isSubtype_stop ?_)
    exact wpAny_pure (hQ _ fun c o c1 c2 c3 q => hs3 _ _ c3 (hs2.extBut _ _ c2 (hs.extBut _ _ c1 q)))
end
section
variable {prog : Program} {w : World}
/-- the state of the zip at its i-th turn -/
def ZipSt (z TI TO i1 i2 l1 l2 d : Addr) (xs ys : Array Value) (i : Nat) (h : Heap) : Prop :=
  (IsZip h z TI TO .none ∧ (∃ a b, IsPair h TO a b) ∧ IsPair h TI (.ref i1) (.ref i2) ∧ h.IsTupleIter i1 l1 i ∧ h.IsTupleIter i2 l2 i ∧ h.IsTuple l1 xs ∧ h.IsTuple l2 ys) ∨
  ∃ T f, HeldT h z TI TO T i1 i2 l1 l2 f i xs ys ∧ T ≠ z ∧ T ≠ i1 ∧ T ≠ i2 ∧ T ≠ d
theorem zipTArg (z TI TO i1 i2 l1 l2 : Addr) (D : ZipApart z TI TO i1 i2 l1 l2) (xs ys : Array Value) :
    PairArg prog w "zip" z [z, TI, TO, i1, i2, l1, l2] [z, TO, i1, i2] (min xs.size ys.size) (fun i k v => xs[i]? = some k ∧ ys[i]? = some v)
      (fun h => IsZip h z TI TO .none ∧ (∃ a b, IsPair h TO a b) ∧ IsPair h TI (.ref i1) (.ref i2) ∧ h.IsTupleIter i1 l1 0 ∧ h.IsTupleIter i2 l2 0 ∧ h.IsTuple l1 xs ∧ h.IsTuple l2 ys) where
  type := fun s ok => ⟨_, ok.1, rfl⟩
  notDict := by decide
  keep := fun h h' ⟨hz, ⟨a, b, hTO⟩, hTI, h1, h2, hl1, hl2⟩ hk => ⟨hk _ _ hz, ⟨a, b, hk _ _ hTO⟩, hk _ _ hTI, h1.at fun o e => hk _ o e, h2.at fun o e => hk _ o e, hl1.at fun o e => hk _ o e, hl2.at fun o e => hk _ o e⟩
  there := fun h ⟨hz, ⟨a, c, hTO⟩, hTI, ⟨o1, h1, _⟩, ⟨o2, h2, _⟩, ⟨o3, hl1, _⟩, ⟨o4, hl2, _⟩⟩ b hb => by
    simp only [List.mem_cons, List.not_mem_nil, or_false] at hb
    rcases hb with rfl | rfl | rfl | rfl | rfl | rfl | rfl
    all_goals first | exact ⟨_, hz⟩ | exact ⟨_, hTI⟩ | exact ⟨_, hTO⟩ | exact ⟨_, h1⟩ | exact ⟨_, h2⟩ | exact ⟨_, hl1⟩ | exact ⟨_, hl2⟩
  sub := fun b hb => by simp at hb ⊢; rcases hb with rfl | rfl | rfl | rfl <;> simp
  noKeys := fun A s Q E hA ok h => getAttrOr_miss_zip ok.1 rfl rfl rfl zip_no_keys (by decide +kernel) hA h
  iter := fun A s d Q E hA ok hd hdf h => by
    simp only [List.mem_cons, List.not_mem_nil, or_false, not_or] at hdf
    obtain ⟨dz, dTI, dTO, di1, di2, dl1, dl2⟩ := hdf
    refine wpAny_pyIter_zip ok.1 (h z [z, TO, i1, i2] (ZipSt z TI TO i1 i2 l1 l2 d xs ys) s.heap s.toks ?_ (.inl ok) (fun _ _ e => e) fun b hb => .inl hb)
    exact {
      off := fun hm => by
        simp only [List.mem_cons, List.not_mem_nil, or_false] at hm
        rcases hm with e | e | e | e
        · exact dz e
        · exact dTO e
        · exact di1 e
        · exact di2 e
      frame := fun i h₁ h₂ st hk => by
        rcases st with ⟨hz, ⟨a, b, hTO⟩, hTI, h1, h2, hl1, hl2⟩ | ⟨T, f, ⟨hz, ⟨oT, hT⟩, hTI, h1, h2, hl1, hl2⟩, r1, r2, r3, r4⟩
        · exact .inl ⟨hk _ _ (Ne.symm dz) hz, ⟨a, b, hk _ _ (Ne.symm dTO) hTO⟩, hk _ _ (Ne.symm dTI) hTI, h1.at fun o e => hk _ o (Ne.symm di1) e, h2.at fun o e => hk _ o (Ne.symm di2) e, hl1.at fun o e => hk _ o (Ne.symm dl1) e, hl2.at fun o e => hk _ o (Ne.symm dl2) e⟩
        · exact .inr ⟨T, f, ⟨hk _ _ (Ne.symm dz) hz, ⟨oT, hk _ _ r4 hT⟩, hk _ _ (Ne.symm dTI) hTI, h1.at fun o e => hk _ o (Ne.symm di1) e, h2.at fun o e => hk _ o (Ne.symm di2) e, hl1.at fun o e => hk _ o (Ne.symm dl1) e, hl2.at fun o e => hk _ o (Ne.symm dl2) e⟩, r1, r2, r3, r4⟩
      item := fun i s₁ Q₁ E₁ hi st hds hQ => by
        have ex := Array.getElem?_eq_getElem (Nat.lt_of_lt_of_le hi (Nat.min_le_left xs.size ys.size))
        have ey := Array.getElem?_eq_getElem (Nat.lt_of_lt_of_le hi (Nat.min_le_right xs.size ys.size))
        have lt : ∀ {c o}, s₁.heap.get? c = some o → s₁.heap.objs.size ≠ c := fun e => Nat.ne_of_gt (Heap.lt_size e)
        rcases st with ⟨hz, ⟨a, b, hTO⟩, hTI, h1, h2, hl1, hl2⟩ | ⟨T, f, hd, r1, r2, r3, r4⟩
        · have n1 : s₁.heap.objs.size ≠ i1 := let ⟨_, e, _⟩ := h1; lt e
          have n2 : s₁.heap.objs.size ≠ i2 := let ⟨_, e, _⟩ := h2; lt e
          refine RZ.pyNext_zipT_item D hz hTI hTO h1 h2 hl1 hl2 ex ey fun h' a1 a2 a3 a4 a5 a6 hk => ?_
          exact hQ s₁.heap.objs.size _ _ h' s₁.toks ⟨ex, ey⟩ (.inl ⟨_, a5, rfl, _, rfl⟩)
            (.inr ⟨s₁.heap.objs.size, false, ⟨a1, ⟨_, a5⟩, hk _ _ D.TIz D.TITO D.TIi1 D.TIi2 hTI, a3, a4, hl1.at fun o e => hk _ o D.l1z D.l1TO D.l1i1 D.l1i2 e, hl2.at fun o e => hk _ o D.l2z D.l2TO D.l2i1 D.l2i2 e⟩, lt hz, n1, n2, Nat.ne_of_gt hds⟩)
            fun c o hc e => hk c o (fun x => hc (by simp [x])) (fun x => hc (by simp [x])) (fun x => hc (by simp [x])) (fun x => hc (by simp [x])) e
        · refine held_item D hd ex ey fun h' a1 a3 a4 a5 hk => ?_
          obtain ⟨hz, ⟨oT, hT⟩, hTI, h1, h2, hl1, hl2⟩ := hd
          exact hQ s₁.heap.objs.size _ _ h' s₁.toks ⟨ex, ey⟩ (.inl ⟨_, a5, rfl, _, rfl⟩)
            (.inr ⟨T, true, ⟨a1, ⟨oT, hk _ _ r1 r2 r3 hT⟩, hk _ _ D.TIz D.TIi1 D.TIi2 hTI, a3, a4, hl1.at fun o e => hk _ o D.l1z D.l1i1 D.l1i2 e, hl2.at fun o e => hk _ o D.l2z D.l2i1 D.l2i2 e⟩, r1, r2, r3, r4⟩)
            fun c o hc e => hk c o (fun x => hc (by simp [x])) (fun x => hc (by simp [x])) (fun x => hc (by simp [x])) e
      done := fun s₁ Q₁ E₁ st hQ => by
        have hend : xs[min xs.size ys.size]? = none ∨ ys[min xs.size ys.size]? = none := by
          rcases Nat.le_total xs.size ys.size with h | h
          · exact .inl (Array.getElem?_eq_none (by rw [Nat.min_eq_left h]; exact Nat.le_refl _))
          · exact .inr (Array.getElem?_eq_none (by rw [Nat.min_eq_right h]; exact Nat.le_refl _))
        rcases st with ⟨hz, ⟨a, b, hTO⟩, hTI, h1, h2, hl1, hl2⟩ | ⟨T, f, hd, r1, r2, r3, r4⟩
        · exact RZ.pyNext_zipT_end hA D hz hTI hTO h1 h2 hl1 hl2 hend fun h' hk => hQ h' s₁.toks fun c o hc e => hk c o (fun x => hc (by simp [x])) (fun x => hc (by simp [x])) (fun x => hc (by simp [x])) (fun x => hc (by simp [x])) e
        · exact held_end hA D hd hend fun h' hk => hQ h' s₁.toks fun c o hc e => hk c o (fun x => hc (by simp [x])) (fun x => hc (by simp [x])) (fun x => hc (by simp [x])) e }
end
end SX
namespace DL
open PySem PySem.Spec PyProof.Rows L2 RT RZ
/-! ### dict(zip(a, b)) of two tuples -/
def gDZip (a b : D) (S : Sto) : Option (D × Sto) := match a, b with
  | .tup xs, .tup ys => if ((xs.zip ys).all fun e => (keyO e.1).isSome) = true then some (.ref S.length, S ++ [.dct (mergeD [] (xs.zip ys))]) else none
  | _, _ => none
theorem zip_rel (P : Program) (wd : World) {K : PySem.W.Frag} {io : List Addr} {H : Hp} : ∀ {xs ys : List D} {vs ws : List V} {us zs : List Value}, RVs K io H xs vs → RVs K io H ys ws → Vals vs us → Vals ws zs → ((xs.zip ys).all fun e => (keyO e.1).isSome) = true →
    ∃ (kvs : List (Key × V)) (krs : List (Key × Value)), (xs.zip ys).map (·.1) = kvs.map (fun p => kD p.1) ∧ RVs K io H ((xs.zip ys).map (·.2)) (kvs.map (·.2)) ∧ KV kvs krs ∧ krs.length = min us.length zs.length ∧ ∀ (i : Nat) (k v : Value), us[i]? = some k → zs[i]? = some v → ∃ q, krs[i]? = some (q, v) ∧ keyIs q k = true
  | [], ys, vs, ws, us, zs, r, r', p, p', _ => by
    unfold RVs at r
    subst r
    cases p
    exact ⟨[], [], rfl, RVs.nil, .nil, by simp, fun i k v e => by simp at e⟩
  | x :: xs, [], vs, ws, us, zs, r, r', p, p', _ => by
    unfold RVs at r'
    subst r'
    cases p'
    exact ⟨[], [], rfl, RVs.nil, .nil, by simp, fun i k v _ e => by simp at e⟩
  | x :: xs, y :: ys, vs, ws, us, zs, r, r', p, p', h => by
    unfold RVs at r r'
    obtain ⟨v, vs, rfl, r1, r2⟩ := r
    obtain ⟨w, ws, rfl, r3, r4⟩ := r'
    cases p with
    | @cons _ u1 _ us1 p1 p2 =>
      cases p' with
      | @cons _ z1 _ zs1 p3 p4 =>
        rw [List.zip_cons_cons, List.all_cons, Bool.and_eq_true] at h
        obtain ⟨kk, hk⟩ := Option.isSome_iff_exists.mp h.1
        have hk' := keyO_some hk
        simp only at hk'
        subst hk'
        have := RV.key r1
        subst this
        obtain ⟨kvs, krs, a1, a2, a3, a4, a5⟩ := zip_rel P wd r2 r4 p2 p4 h.2
        refine ⟨(kk, w) :: kvs, (kk, z1) :: krs, ?_, RVs.cons r3 a2, .cons ⟨rfl, p3⟩ a3, ?_, fun i k v e e' => ?_⟩
        · rw [List.zip_cons_cons, List.map_cons, List.map_cons, a1]
        · simp only [List.length_cons, a4]
          omega
        · cases i with
          | zero =>
            cases e
            cases e'
            exact ⟨kk, rfl, kV_is (P := P) (w := wd) p1⟩
          | succ i => simpa using a5 i k v (by simpa using e) (by simpa using e')
section
variable {X : Cx} {W : XK}
set_option maxHeartbeats 1000000 in
theorem d_dzip {ea eb : Expr} {p p2 pos q : Pos} {fa fb : Ev → Sto → Ans D} (hc : X.calm = true) (hg : Gl X "dict") (hm : X.mg "dict" = none) (hg2 : Gl X "zip") (hm2 : X.mg "zip" = none) (ha : DE X W ea fa) (hb : DE X W eb fb)
    (hs : starEach [ea, eb] X.env = (false, eval ea X.env) :: starEach [eb] X.env := by rfl) (hsb : starEach [eb] X.env = (false, eval eb X.env) :: starEach [] X.env := by rfl)
    (hs2 : starEach [Expr.Call (.Name "zip" p2) [ea, eb] [] q] X.env = (false, eval (Expr.Call (.Name "zip" p2) [ea, eb] [] q) X.env) :: starEach [] X.env := by rfl) (hpl : (backTo q (starEach [eb] X.env)).any (·.1) = false := by rfl) (hpl2 : (backTo pos (starEach [] X.env)).any (·.1) = false := by rfl) :
    DE X W (.Call (.Name "dict" p) [.Call (.Name "zip" p2) [ea, eb] [] q] [] pos) (dOp gDZip fa fb) := by
  refine ⟨fun pins s σ H Q I ⟨io, S, env, r, S', rs, re, hf, hE⟩ => ?_⟩
  refine wpAny_Call_Name_kw (ld_blt (u := .type "dict") I hg hm (by decide +kernel) ?_ (by decide) (by decide))
  refine PyProof.Rows.callWith_type1 ?_ hs2 hpl2
  rw [hs2]
  show wpAny _ _ (spliced ((false, eval _ X.env) :: backTo pos (starEach [] X.env))) _ _ s
  refine Calls.spliced_cons ?_
  refine wpAny_Call_Name_kw (ld_blt (u := .type "zip") I hg2 hm2 (by decide +kernel) ?_ (by decide) (by decide))
  refine PyProof.Rows.callWith_type1 (thn ((pa_cons ha (pa_cons hb pa_nil hsb) hs).run q pins s σ H (fun vs H1 => ∃ io1 S1 a b x y, vs = [x, y] ∧ Ext X.K io H io1 H1 ∧ RS X.K io1 S1 H1 ∧ RV X.K io1 H1 a x ∧ RV X.K io1 H1 b y ∧ okO (gDZip a b S1) = some (r, S') ∧ EndG X.K X.mg W (RV X.K) io1 H1 r S' Q) I ?_) fun us s1 ⟨vs, H1, I1, r1, q1⟩ => ?_) hs hpl
  · refine tG_bind rs re hf hE fun a S1 io1 H1 v e1 rs1 re1 rv1 h1 hE1 => ?_
    refine tG_bind rs1 re1 h1 hE1 fun b S2 io2 H2 w e2 rs2 re2 rv2 h2 hE2 => ?_
    exact ⟨io2, S2, a, b, v, w, rfl, e1.trans e2, rs2, RV.mono e2 _ _ rv1, rv2, h2, hE2⟩
  · obtain ⟨io1, S1, a, b, x, y, rfl, e1, rs1, ra, rb, h1, hE1⟩ := q1
    obtain ⟨d, h2, rfl⟩ := okO_some h1
    unfold gDZip at h2
    split at h2
    · rename_i xs ys
      split at h2
      · rename_i hk
        cases h2
        unfold RV at ra rb
        obtain ⟨t1, vs, rfl, ta, va⟩ := ra
        obtain ⟨t2, ws, rfl, tb, vb⟩ := rb
        obtain ⟨u1, u2, rfl, p1, p2⟩ := vals2 r1
        obtain rfl : u1 = Value.ref t1 := p1
        obtain rfl : u2 = Value.ref t2 := p2
        obtain ⟨its, rv, pt1, hz1⟩ := I1.tuple ta
        obtain ⟨its2, rv2, pt2, hz2⟩ := I1.tuple tb
        obtain ⟨o1, ho1, _⟩ := id pt1
        obtain ⟨o2, ho2, _⟩ := id pt2
        have D := PySem.W.ktu_apart s1.heap.objs.size t1 t2 (Heap.lt_size ho1) (Heap.lt_size ho2)
        refine RZ.call_zipT (show s1.heap.IsTuple t1 its.toArray from pt1) (show s1.heap.IsTuple t2 its2.toArray from pt2) fun h' hz hTI hTO i1 i2 hsz hkp => ?_
        refine Calls.spliced_nil ?_
        obtain ⟨kvs, krs, z1, z2, z3, z4, z5⟩ := zip_rel X.prog X.w va vb rv rv2 hk
        have PA := SX.zipTArg (prog := X.prog) (w := X.w) _ _ _ _ _ t1 t2 D its.toArray its2.toArray
        have tu1 : h'.IsTuple t1 its.toArray := Heap.IsTuple.at (show s1.heap.IsTuple t1 its.toArray from pt1) fun o e => hkp _ o e
        have tu2 : h'.IsTuple t2 its2.toArray := Heap.IsTuple.at (show s1.heap.IsTuple t2 its2.toArray from pt2) fun o e => hkp _ o e
        have hlen := rv.length
        refine PySem.call_dict_pairs (s := { s1 with heap := h' }) (knd := mixKind X.prog X.w) (kvs := krs) PA (I1.ok.hd hc) ⟨hz, ⟨_, _, hTO⟩, hTI, i1, i2, tu1, tu2⟩ ⟨by simp [z4], fun i k v e => ?_⟩ (by simp only [List.size_toArray]; omega) fun h2 tk hd2 hk2 => ?_
        · obtain ⟨qq, y1, y2⟩ := z5 i k v (by simpa using e.1) (by simpa using e.2)
          exact ⟨qq, y1, y2⟩
        · have keep : ∀ b o, s1.heap.get? b = some o → h2.get? b = some o := fun b o e => by
            have hb := Heap.lt_size e
            refine hk2 b o (fun hm => ?_) (hkp b o e)
            simp only [List.mem_cons, List.not_mem_nil, or_false] at hm
            have hle : s1.heap.objs.size ≤ b := by
              rcases hm with z | z | z | z
              · rw [z]; exact Nat.le_add_right _ _
              · rw [z]; exact Nat.le_add_right _ _
              · rw [z]; exact Nat.le_refl _
              · rw [z]; exact Nat.le_add_right _ _
            exact absurd hb (Nat.not_lt.mpr hle)
          have hle : s1.heap.objs.size ≤ h'.objs.size := by rw [hsz]; exact Nat.le_add_right _ _
          have hm : (h'.objs.size == sysModules) = false := beq_eq_false_iff_ne.mpr (Nat.ne_of_gt (Nat.lt_of_lt_of_le I1.big hle))
          have hlen2 : (mergeK [] kvs).length ≤ sizeLine := by
            refine Nat.le_trans (length_mergeK kvs []) ?_
            have := z3.length
            rw [List.length_nil, Nat.zero_add, this, z4]
            omega
          have hn' := I1.hok.fresh hle
          obtain ⟨w1, w2⟩ := merge_rel z1 z2 (es := []) (acc := []) rfl RVs.nil
          exact ⟨.ref h'.objs.size, upd H1 h'.objs.size (.dK (mergeK [] kvs)), I1.laid (t' := tk) keep hle (show ObjOk X.prog X.w _ _ _ (.dK (mergeK [] kvs)) from ⟨hlen2, hm, merged [] krs, KV.merge z3 .nil, hd2⟩), rfl, hE1 _ _ _ (Ext.new hn') (rs1.dctNew hn' w1 w2) (mRef rs1.lastNew)⟩
      · cases h2
    · cases h2
end
end DL
namespace DL
open PySem PySem.Spec PyProof.Rows L2 RT RZ

/-! ### plain lemmas about the computations -/
section
variable {α β : Type} {S S' : Sto} {env env' : Ev}
@[simp] theorem bindR_okE (a : α) (S : Sto) (k : α → Sto → Ans β) : bindR (some (.ok a, S)) k = k a S := rfl
@[simp] theorem bindR_noneE (k : α → Sto → Ans β) : bindR (none : Ans α) k = none := rfl
@[simp] theorem bindR_exE (e : Exn) (S : Sto) (k : α → Sto → Ans β) : bindR (some (.ex e, S)) k = some (.ex e, S) := rfl
@[simp] theorem bindS_okE (a : α) (S : Sto) (env : Ev) (k : α → Sto → AnsS) : bindS (some (.ok a, S)) env k = k a S := rfl
@[simp] theorem bindS_exE (e : Exn) (S : Sto) (env : Ev) (k : α → Sto → AnsS) : bindS (some (.ex e, S)) env k = some (.ex e, env, S) := rfl
@[simp] theorem okO_someE (a : α) (S : Sto) : okO (some (a, S)) = some (.ok a, S) := rfl
@[simp] theorem okT_someE (b : Bool) (S : Sto) : okT (some b) S = some (.ok b, S) := rfl
@[simp] theorem intsOf_map : ∀ is : List Int, intsOf (is.map D.int) = some is
  | [] => rfl
  | i :: is => by simp [intsOf, intsOf_map is]
@[simp] theorem strsOf_map : ∀ is : List Str, strsOf (is.map D.str) = some is
  | [] => rfl
  | i :: is => by simp [strsOf, strsOf_map is]
@[simp] theorem blsOf_map : ∀ is : List Bool, blsOf (is.map D.bl) = some is
  | [] => rfl
  | i :: is => by simp [blsOf, blsOf_map is]
theorem intsOf_eq : ∀ {ds : List D} {is : List Int}, intsOf ds = some is → ds = is.map D.int
  | [], _, h => by cases h; rfl
  | .int i :: ds, _, h => by
    unfold intsOf at h
    split at h
    · rename_i js hj
      cases h
      rw [intsOf_eq hj]
      rfl
    · cases h
  | .non :: _, _, h => by cases h
  | .bl _ :: _, _, h => by cases h
  | .str _ :: _, _, h => by cases h
  | .tup _ :: _, _, h => by cases h
  | .ref _ :: _, _, h => by cases h
theorem strsOf_eq : ∀ {ds : List D} {is : List Str}, strsOf ds = some is → ds = is.map D.str
  | [], _, h => by cases h; rfl
  | .str i :: ds, _, h => by
    unfold strsOf at h
    split at h
    · rename_i js hj
      cases h
      rw [strsOf_eq hj]
      rfl
    · cases h
  | .non :: _, _, h => by cases h
  | .bl _ :: _, _, h => by cases h
  | .int _ :: _, _, h => by cases h
  | .tup _ :: _, _, h => by cases h
  | .ref _ :: _, _, h => by cases h
/-- turns enough for any while -/
@[irreducible] def fuel : Nat := 1000000
theorem fuel_ge : 1000000 ≤ fuel := by
  unfold fuel
  exact Nat.le_refl _
/-! how the computations go on, for simp -/
section
variable {fa fb : Ev → Sto → Ans D} {fs : Ev → Sto → Ans (List D)} {ga gb : Ev → Sto → Ans Bool} {f g : Ev → Sto → AnsS} {op : D → D → Sto → Option (D × Sto)} {op1 : D → Sto → Option (D × Sto)} {opn : List D → Sto → Option (D × Sto)} {opm : D → List D → Sto → Option (D × Sto)} {ops : D → D → D → Sto → Option Sto} {m : Mir}
@[simp] theorem E_bindS_none {α : Type} (env : Ev) (k : α → Sto → AnsS) : bindS (none : Ans α) env k = none := rfl
@[simp] theorem E_okO_none {α : Type} : okO (none : Option (α × Sto)) = none := rfl
@[simp] theorem E_okT_none (S : Sto) : okT none S = none := rfl
@[simp] theorem E_dVar (i : Nat) : dVar i env S = match env[i]? with
  | some (some d) => some (.ok d, S)
  | _ => none := rfl
@[simp] theorem E_dC (d : D) : dC d env S = some (.ok d, S) := rfl
@[simp] theorem E_dOp : dOp op fa fb env S = bindR (fa env S) fun a S1 => bindR (fb env S1) fun b S2 => okO (op a b S2) := rfl
@[simp] theorem E_dUn : dUn op1 fa env S = bindR (fa env S) fun a S1 => okO (op1 a S1) := rfl
@[simp] theorem E_dNil : dNil env S = some (.ok [], S) := rfl
@[simp] theorem E_dCons : dCons fa fs env S = bindR (fa env S) fun a S1 => bindR (fs env S1) fun r S2 => some (.ok (a :: r), S2) := rfl
@[simp] theorem E_dCB : dCB opn fs env S = bindR (fs env S) fun ds S1 => okO (opn ds S1) := rfl
@[simp] theorem E_dM (T : String) : dM T opm fa fs env S = bindR (fa env S) fun a S1 => if tyM T a S1 = true then bindR (fs env S1) fun ds S2 => okO (opm a ds S2) else none := rfl
@[simp] theorem E_dTru : dTru fa env S = bindR (fa env S) fun a S1 => okT (truD a S1) S1 := rfl
@[simp] theorem E_dBl : dBl fa env S = bindR (fa env S) fun a S1 => okT (blOf a) S1 := rfl
@[simp] theorem E_dAnd : dAnd ga gb env S = bindR (ga env S) fun a S1 => if a = true then gb env S1 else some (.ok false, S1) := rfl
@[simp] theorem E_dOr : dOr ga gb env S = bindR (ga env S) fun a S1 => if a = true then some (.ok true, S1) else gb env S1 := rfl
@[simp] theorem E_dNot : dNot ga env S = bindR (ga env S) fun a S1 => some (.ok (!a), S1) := rfl
@[simp] theorem E_dAndV : dAndV fa fb env S = bindR (fa env S) fun a S1 => bindR (okT (truD a S1) S1) fun c S1 => if c = true then fb env S1 else some (.ok a, S1) := rfl
@[simp] theorem E_dOrV : dOrV fa fb env S = bindR (fa env S) fun a S1 => bindR (okT (truD a S1) S1) fun c S1 => if c = true then some (.ok a, S1) else fb env S1 := rfl
@[simp] theorem E_dNotV : dNotV fa env S = bindR (fa env S) fun a S1 => bindR (okT (truD a S1) S1) fun c S1 => some (.ok (.bl (!c)), S1) := rfl
@[simp] theorem E_dIf : dIf ga fa fb env S = bindR (ga env S) fun c S1 => if c = true then fa env S1 else fb env S1 := rfl
@[simp] theorem E_dTrue : dTrue env S = some (.ok true, S) := rfl
@[simp] theorem E_dCall : dCall m fs env S = bindR (fs env S) fun ds S1 => m ds S1 := rfl
@[simp] theorem E_dCallD (dd : List D) : dCallD m dd fs env S = bindR (fs env S) fun ds S1 => m (ds ++ dd) S1 := rfl
@[simp] theorem E_dCallK {fk : Ev → Sto → Ans (List D)} (n k : Nat) : dCallK m n k fs fk env S = bindR (fs env S) fun ds S1 => bindR (fk env S1) fun es S2 => if ds.length = n ∧ es.length = k then m (ds ++ es) S2 else none := rfl
@[simp] theorem E_dIsi (T : String) : dIsi T fa env S = bindR (fa env S) fun a S1 => match tyN a S1 with
  | some n => match kitB n T with
    | some b => some (.ok (.bl b), S1)
    | none => none
  | none => none := rfl
@[simp] theorem E_dSl (fl fh : Option (Ev → Sto → Ans D)) : dSl fa fl fh env S = bindR (fa env S) fun a S1 => bindR (dOpt fl env S1) fun lo S2 => bindR (dOpt fh env S2) fun hi S3 => okO (gSl a lo hi S3) := rfl
@[simp] theorem E_dOpt_none : dOpt none env S = some (.ok none, S) := rfl
@[simp] theorem E_dOpt_some : dOpt (some fa) env S = bindR (fa env S) fun d S1 => match d with
  | .int i => some (.ok (some i), S1)
  | _ => none := rfl
@[simp] theorem E_sNext : sNext env S = some (.nx, env, S) := rfl
@[simp] theorem E_sBreak : sBreak env S = some (.bk, env, S) := rfl
@[simp] theorem E_sCont : sCont env S = some (.ct, env, S) := rfl
@[simp] theorem E_sSeq : sSeq f g env S = match f env S with
  | some (.nx, env1, S1) => g env1 S1
  | x => x := rfl
@[simp] theorem E_sAsg (t : Tg) : sAsg t fa env S = bindS (fa env S) env fun d S1 => match t.put d env with
  | some env1 => some (.nx, env1, S1)
  | none => none := rfl
@[simp] theorem E_sSub {fe fo fi : Ev → Sto → Ans D} : sSub ops fe fo fi env S = bindS (fe env S) env fun d S1 => bindS (fo env S1) env fun o S2 => bindS (fi env S2) env fun i S3 => match ops o i d S3 with
  | some S4 => some (.nx, env, S4)
  | none => none := rfl
@[simp] theorem E_sAug (i : Nat) : sAug i op fa env S = match env[i]? with
  | some (some x) => bindS (fa env S) env fun y S1 => match op x y S1 with
    | some (z, S2) => some (.nx, env.set i (some z), S2)
    | none => none
  | _ => none := rfl
@[simp] theorem E_sAugS {gg gp : D → D → Sto → Option (D × Sto)} {fe fo fi : Ev → Sto → Ans D} : sAugS gg gp ops fo fi fe env S = bindS (fo env S) env fun o S1 => bindS (fi env S1) env fun i S2 => bindS (okO (gg o i S2)) env fun x S3 => bindS (fe env S3) env fun y S4 => bindS (okO (gp x y S4)) env fun z S5 => match ops o i z S5 with
  | some S6 => some (.nx, env, S6)
  | none => none := rfl
@[simp] theorem E_sExpr : sExpr fa env S = bindS (fa env S) env fun _ S1 => some (.nx, env, S1) := rfl
@[simp] theorem E_sRet : sRet fa env S = bindS (fa env S) env fun d S1 => some (.rt d, env, S1) := rfl
@[simp] theorem E_sRetN : sRetN env S = some (.rt .non, env, S) := rfl
@[simp] theorem E_sIf : sIf ga f g env S = bindS (ga env S) env fun c S1 => if c = true then f env S1 else g env S1 := rfl
@[simp] theorem E_sWhile (n : Nat) : sWhile n ga f env S = whileD ga f n env S := rfl
@[simp] theorem E_sFor {fw : Ev → Sto → Ans Wk} (t : Tg) : sFor fw t f env S = bindS (fw env S) env fun w S1 => forD w.ok t f w.items env S1 := rfl
@[simp] theorem E_wSeq : wSeq fa env S = bindR (fa env S) fun d S1 => match seqOf d S1 with
  | some ds => some (.ok ⟨fun S => seqOf d S = some ds, ds⟩, S1)
  | none => none := rfl
@[simp] theorem E_wRev : wRev fa env S = bindR (fa env S) fun d S1 => match seqOf d S1 with
  | some ds => some (.ok ⟨fun S => seqOf d S = some ds, ds.reverse⟩, S1)
  | none => none := rfl
@[simp] theorem E_wRange : wRange fs env S = bindR (fs env S) fun ds S1 => match ds with
  | [.int j] => if RgB j then some (.ok ⟨fun _ => True, rangeL 0 j.toNat⟩, S1) else none
  | [.int i, .int j] => if RgB i ∧ RgB j then some (.ok ⟨fun _ => True, rangeL i (j - i).toNat⟩, S1) else none
  | _ => none := rfl
@[simp] theorem E_wEnumA : wEnumA fs env S = bindR (fs env S) fun ds S1 => match ds with
  | [d] => match seqOf d S1 with
    | some xs => some (.ok ⟨fun S => seqOf d S = some xs, enumD xs⟩, S1)
    | none => none
  | _ => none := rfl
@[simp] theorem E_dLc {fw : Ev → Sto → Ans Wk} (t : Tg) (vs : List Nat) : dLc fw t ga fa vs env S = bindR (fw env S) fun w S1 => match lcD w.ok t ga fa (wipeE env vs) S1.length w.items (S1 ++ [.lst []]) with
  | some S2 => some (.ok (.ref S1.length), S2)
  | none => none := rfl
@[simp] theorem E_put_nm (i : Nat) (d : D) (env : Ev) : Tg.put (.nm i) d env = some (env.set i (some d)) := rfl
@[simp] theorem E_put_tp (l : List Tg) (ds : List D) (env : Ev) : Tg.put (.tp l) (.tup ds) env = Tg.puts l ds env := rfl
@[simp] theorem E_puts_nil (env : Ev) : Tg.puts [] [] env = some env := rfl
@[simp] theorem E_puts_cons (t : Tg) (ts : List Tg) (d : D) (ds : List D) (env : Ev) : Tg.puts (t :: ts) (d :: ds) env = match Tg.put t d env with
  | some env1 => Tg.puts ts ds env1
  | none => none := rfl
@[simp] theorem E_runB (n k : Nat) (ds : List D) : runB n k f ds S = if ds.length = n then match f (ds.map some ++ List.replicate (k - n) none) S with
    | some (.nx, _, S') => some (.ok .non, S')
    | some (.rt d, _, S') => some (.ok d, S')
    | some (.ex e, _, S') => some (.ex e, S')
    | _ => none
  else none := rfl
@[simp] theorem E_wipeE_nil (env : Ev) : wipeE env [] = env := rfl
@[simp] theorem E_wipeE_cons (env : Ev) (v : Nat) (vs : List Nat) : wipeE env (v :: vs) = (wipeE env vs).set v none := rfl
@[simp] theorem E_gAdd_int (i j : Int) : gAdd (.int i) (.int j) S = some (.int (i + j), S) := rfl
@[simp] theorem E_gSub_int (i j : Int) : gSub (.int i) (.int j) S = some (.int (i - j), S) := rfl
@[simp] theorem E_gIAdd_int (i j : Int) : gIAdd (.int i) (.int j) S = some (.int (i + j), S) := rfl
@[simp] theorem E_gNeg_int (i : Int) : gNeg (.int i) S = some (.int (-i), S) := rfl
@[simp] theorem E_gMulR (i j : Int) (h1 : -(2 ^ 64) < j) (h2 : j < 2 ^ 64) : gMul (.int i) (.int j) S = some (.int (i * j), S) := if_pos (.inl (.inr ⟨h1, h2⟩))
theorem E_gMulW (i j : Int) (h : CMulW i j) : gMul (.int i) (.int j) S = some (.int (i * j), S) := if_pos (.inr (.inl h))
theorem E_gMulI (i j : Int) (h : IntMulOk i j) : gMul (.int i) (.int j) S = some (.int (i * j), S) := if_pos (.inr (.inr h))
@[simp] theorem E_gMod (i j : Int) (h : 0 < j) : gMod (.int i) (.int j) S = some (.int (i % j), S) := if_pos h
theorem E_gFdiv (i j : Int) (h : CDivW i j) : gFdiv (.int i) (.int j) S = some (.int (i / j), S) := if_pos h
@[simp] theorem E_gPow (i j : Int) (h0 : 0 ≤ j) (h1 : j ≤ 1000000) (h2 : i.natAbs < 2 ^ 64) : gPow (.int i) (.int j) S = some (.int (i ^ j.toNat), S) := if_pos ⟨h0, h1, h2⟩
@[simp] theorem E_gEq (a b : D) : gEq a b S = blS (eqB a b S) S := rfl
@[simp] theorem E_gNe (a b : D) : gNe a b S = blS ((eqB a b S).map (!·)) S := rfl
@[simp] theorem E_eqB_int (i j : Int) : eqB (.int i) (.int j) S = some (decide (i = j)) := rfl
@[simp] theorem E_eqB_str (i j : Str) : eqB (.str i) (.str j) S = some (decide (i = j)) := rfl
@[simp] theorem E_eqB_bl (i j : Bool) : eqB (.bl i) (.bl j) S = some (decide (i = j)) := rfl
@[simp] theorem E_blS (b : Bool) : blS (some b) S = some (.bl b, S) := rfl
@[simp] theorem E_blS0 : blS none S = none := rfl
@[simp] theorem E_blOf (b : Bool) : blOf (.bl b) = some b := rfl
@[simp] theorem E_gLt_int (i j : Int) : gLt (.int i) (.int j) S = some (.bl (decide (i < j)), S) := rfl
@[simp] theorem E_gLe_int (i j : Int) : gLe (.int i) (.int j) S = some (.bl (decide (i ≤ j)), S) := rfl
@[simp] theorem E_gGt_int (i j : Int) : gGt (.int i) (.int j) S = some (.bl (decide (j < i)), S) := rfl
@[simp] theorem E_gGe_int (i j : Int) : gGe (.int i) (.int j) S = some (.bl (decide (j ≤ i)), S) := rfl
@[simp] theorem E_gIx_ref (n : Nat) (i : Int) : gIx (.ref n) (.int i) S = match seqOf (.ref n) S with
    | some ds => match atI ds i with
      | some d => some (d, S)
      | none => none
    | none => none := rfl
@[simp] theorem E_gIx_tup (ds : List D) (i : Int) : gIx (.tup ds) (.int i) S = match atI ds i with
      | some d => some (d, S)
      | none => none := rfl
@[simp] theorem E_gIxL (n : Nat) (i : Int) : gIxL (.ref n) (.int i) S = match seqOf (.ref n) S with
    | some ds => match atI ds i with
      | some d => if 0 ≤ i then some (d, S) else none
      | none => none
    | none => none := rfl
@[simp] theorem E_gSetL (n : Nat) (k : Int) (d : D) : gSetL (.ref n) (.int k) d S = match S[n]? with
    | some (.lst ds) => match ixN ds.length k with
      | some j => some (S.set n (.lst (ds.set j d)))
      | none => none
    | _ => none := rfl
theorem E_seq_ref (n : Nat) : seqOf (.ref n) S = match S[n]? with
    | some (.lst ds) => some ds
    | some (.rol ds) => some ds
    | _ => none := rfl
@[simp] theorem E_cInt (i : Int) : cInt [.int i] S = some (.int i, S) := rfl
@[simp] theorem E_cIntB (b : Bool) : cInt [.bl b] S = some (.int (if b then 1 else 0), S) := rfl
@[simp] theorem E_cAbs (i : Int) : cAbs [.int i] S = some (.int (if i < 0 then -i else i), S) := rfl
@[simp] theorem E_cMax2 (i j : Int) : cMax2 [.int i, .int j] S = some (.int (if j > i then j else i), S) := rfl
@[simp] theorem E_cMin2 (i j : Int) : cMin2 [.int i, .int j] S = some (.int (if j < i then j else i), S) := rfl
@[simp] theorem E_cLen_ref (n : Nat) : cLen [.ref n] S = match seqOf (.ref n) S with
    | some ds => some (.int ds.length, S)
    | none => none := rfl
@[simp] theorem E_cLen_tup (ds : List D) : cLen [.tup ds] S = some (.int ds.length, S) := rfl
@[simp] theorem E_cList (d : D) : cList [d] S = match seqOf d S with
    | some ds => some (.ref S.length, S ++ [.lst ds])
    | none => none := rfl
@[simp] theorem E_cTuple (d : D) : cTuple [d] S = match seqOf d S with
    | some ds => some (.tup ds, S)
    | none => none := rfl
@[simp] theorem E_mAppend (n : Nat) (d : D) : mAppend (.ref n) [d] S = match S[n]? with
    | some (.lst ds) => if ds.length < sizeLine then some (.non, S.set n (.lst (ds ++ [d]))) else none
    | _ => none := rfl
@[simp] theorem E_mPop (n : Nat) : mPop (.ref n) [] S = match S[n]? with
    | some (.lst ds) => match ds[ds.length - 1]? with
      | some d => some (d, S.set n (.lst ds.dropLast))
      | none => none
    | _ => none := rfl
@[simp] theorem E_tyM_list (n : Nat) : tyM "list" (.ref n) S = (seqOf (.ref n) S).isSome := by
  unfold tyM
  simp only
  split
  · rename_i es h
    unfold seqOf
    simp [h]
  · simp
@[simp] theorem E_gTup (ds : List D) (h : ds.length ≤ sizeLine) : gTup ds S = some (.tup ds, S) := if_pos h
@[simp] theorem E_gLst (ds : List D) (h : ds.length ≤ sizeLine) : gLst ds S = some (.ref S.length, S ++ [.lst ds]) := if_pos h
@[simp] theorem E_truD_bl (b : Bool) : truD (.bl b) S = some b := rfl
@[simp] theorem E_truD_int (i : Int) : truD (.int i) S = some (i != 0) := rfl
@[simp] theorem E_truD_ref (n : Nat) : truD (.ref n) S = (seqOf (.ref n) S).map fun ds => !ds.isEmpty := rfl
@[simp] theorem E_truD_tup (ds : List D) : truD (.tup ds) S = some (!ds.isEmpty) := rfl
theorem line_big : (1000000 : Nat) ≤ sizeLine := by decide
@[simp] theorem line0 : 0 ≤ sizeLine := Nat.zero_le _
end
theorem atI_of {α : Type} {xs : List α} {i : Int} {k : Nat} {x : α} (hi : i = k) (h : xs[k]? = some x) : atI xs i = some x := by
  subst hi
  exact atI_nat h
theorem ixN_of {n : Nat} {i : Int} {k : Nat} (hi : i = k) (h : k < n) : ixN n i = some k := by
  subst hi
  unfold ixN
  rw [if_pos (by omega), if_pos (by omega)]
  simp
/-! kinds of values, for isinstance -/
@[simp] theorem kit_ii : kitB "int" "int" = some true := by decide +kernel
@[simp] theorem kit_ib : kitB "int" "bool" = some false := by decide +kernel
@[simp] theorem kit_tt : kitB "tuple" "tuple" = some true := by decide +kernel
@[simp] theorem kit_tb : kitB "tuple" "bool" = some false := by decide +kernel
@[simp] theorem kit_ss : kitB "str" "str" = some true := by decide +kernel
@[simp] theorem kit_ns : kitB "NoneType" "str" = some false := by decide +kernel
@[simp] theorem kit_ts : kitB "tuple" "str" = some false := by decide +kernel
@[simp] theorem kit_bb : kitB "bool" "bool" = some true := by decide +kernel
@[simp] theorem kit_nt : kitB "NoneType" "tuple" = some false := by decide +kernel
@[simp] theorem kit_st : kitB "str" "tuple" = some false := by decide +kernel
@[simp] theorem E_tyN_int (i : Int) : tyN (.int i) S = some "int" := rfl
@[simp] theorem E_tyN_tup (l : List D) : tyN (.tup l) S = some "tuple" := rfl
@[simp] theorem E_tyN_bl (i : Bool) : tyN (.bl i) S = some "bool" := rfl
@[simp] theorem E_tyN_str (i : Str) : tyN (.str i) S = some "str" := rfl
@[simp] theorem E_tyN_non : tyN .non S = some "NoneType" := rfl
/-! locations -/
theorem get_app (S T : Sto) (k : Nat) : (S ++ T)[S.length + k]? = T[k]? := by
  rw [List.getElem?_append_right (Nat.le_add_right _ _), Nat.add_sub_cancel_left]
@[simp] theorem get_app0 (S T : Sto) : (S ++ T)[S.length]? = T[0]? := get_app S T 0
@[simp] theorem get_last (S : Sto) (o : O) : (S ++ [o])[S.length]? = some o := get_app S [o] 0
theorem get_old {S T : Sto} {n : Nat} {o : O} (h : S[n]? = some o) : (S ++ T)[n]? = some o := by
  rw [List.getElem?_append_left (List.getElem?_eq_some_iff.mp h).1]
  exact h
@[simp] theorem set_last (S : Sto) (o u : O) : (S ++ [o]).set S.length u = S ++ [u] := by
  rw [List.set_append_right _ _ (Nat.le_refl _), Nat.sub_self]
  rfl
theorem seq_old {S T : Sto} {d : D} {ds : List D} (h : seqOf d S = some ds) : seqOf d (S ++ T) = some ds := by
  cases d with
  | ref n =>
    rcases seq_ref h with h | h
    · simp [seqOf, get_old h]
    · simp [seqOf, get_old h]
  | tup _ => exact h
  | _ => cases h
theorem seq_lst {S : Sto} {n : Nat} {ds : List D} (h : S[n]? = some (.lst ds)) : seqOf (.ref n) S = some ds := by simp [seqOf, h]
@[simp] theorem seq_tup (ds : List D) (S : Sto) : seqOf (.tup ds) S = some ds := rfl
@[simp] theorem seq_last (S : Sto) (ds : List D) : seqOf (.ref S.length) (S ++ [.lst ds]) = some ds := by simp [seqOf]
theorem lst_lt {S : Sto} {n : Nat} {o : O} (h : S[n]? = some o) : n < S.length := (List.getElem?_eq_some_iff.mp h).1

/-! loops -/
theorem whileD_rule {fc : Ev → Sto → Ans Bool} {fb : Ev → Sto → AnsS} (Inv : Ev → Sto → Prop) (mu : Ev → Sto → Nat) (Post : Ev → Sto → Prop)
    (step : ∀ env S, Inv env S → (∃ S1, fc env S = some (.ok false, S1) ∧ Post env S1) ∨ ∃ S1 env2 S2, fc env S = some (.ok true, S1) ∧ (fb env S1 = some (.nx, env2, S2) ∨ fb env S1 = some (.ct, env2, S2)) ∧ Inv env2 S2 ∧ mu env2 S2 < mu env S) :
    ∀ (n : Nat) (env : Ev) (S : Sto), Inv env S → mu env S < n → ∃ env' S', whileD fc fb n env S = some (.nx, env', S') ∧ Post env' S'
  | 0, _, _, _, h => absurd h (Nat.not_lt_zero _)
  | n + 1, env, S, hI, hm => by
    unfold whileD
    rcases step env S hI with ⟨S1, h1, h2⟩ | ⟨S1, env2, S2, h1, h2, h3, h4⟩
    · rw [h1]
      exact ⟨env, S1, rfl, h2⟩
    · obtain ⟨e', S', q1, q2⟩ := whileD_rule Inv mu Post step n env2 S2 h3 (by omega)
      refine ⟨e', S', ?_, q2⟩
      rw [h1, bindS_okE, if_pos rfl]
      rcases h2 with h2 | h2
      · rw [h2]
        exact q1
      · rw [h2]
        exact q1
theorem forD_rule {ok : Sto → Prop} {t : Tg} {fb : Ev → Sto → AnsS} (Inv : Nat → Ev → Sto → Prop) (Ret : D → Ev → Sto → Prop) : ∀ (items : List D) (i : Nat) (env : Ev) (S : Sto) (hok : ∀ j env S, j ≤ i + items.length → Inv j env S → ok S) (hI : Inv i env S)
    (step : ∀ j x env S, items[j]? = some x → Inv (i + j) env S → ∃ env1 env2 S2, t.put x env = some env1 ∧ ((fb env1 S = some (.nx, env2, S2) ∧ Inv (i + j + 1) env2 S2) ∨ (fb env1 S = some (.ct, env2, S2) ∧ Inv (i + j + 1) env2 S2) ∨ ∃ d, fb env1 S = some (.rt d, env2, S2) ∧ Ret d env2 S2)),
    (∃ env' S', forD ok t fb items env S = some (.nx, env', S') ∧ Inv (i + items.length) env' S') ∨ ∃ d env' S', forD ok t fb items env S = some (.rt d, env', S') ∧ Ret d env' S'
  | [], i, env, S, hok, hI, _ => .inl ⟨env, S, by unfold forD; rw [if_pos (hok i env S (by simp) hI)], hI⟩
  | x :: xs, i, env, S, hok, hI, step => by
    unfold forD
    rw [if_pos (hok i env S (by omega) hI)]
    obtain ⟨env1, env2, S2, h1, h2⟩ := step 0 x env S rfl hI
    rw [h1]
    have ih := fun hI2 => forD_rule Inv Ret xs (i + 1) env2 S2 (fun j env S hj h => hok j env S (by simp only [List.length_cons]; omega) h) hI2 (fun j y env S hy hj => by
      have q := step (j + 1) y env S (by simpa using hy) (by rw [show i + (j + 1) = i + 1 + j by omega]; exact hj)
      rw [show i + (j + 1) + 1 = i + 1 + j + 1 by omega] at q
      exact q)
    rcases h2 with ⟨h2, h3⟩ | ⟨h2, h3⟩ | ⟨d, h2, h3⟩
    · simp only [h2]
      have q := ih h3
      rw [show i + 1 + xs.length = i + (x :: xs).length by simp only [List.length_cons]; omega] at q
      exact q
    · simp only [h2]
      have q := ih h3
      rw [show i + 1 + xs.length = i + (x :: xs).length by simp only [List.length_cons]; omega] at q
      exact q
    · simp only [h2]
      exact .inr ⟨d, env2, S2, rfl, h3⟩
/-- a loop that is not left early -/
theorem forD_all {ok : Sto → Prop} {t : Tg} {fb : Ev → Sto → AnsS} (Inv : Nat → Ev → Sto → Prop) (items : List D) (env : Ev) (S : Sto) (hok : ∀ j env S, j ≤ items.length → Inv j env S → ok S) (hI : Inv 0 env S)
    (step : ∀ j x env S, items[j]? = some x → Inv j env S → ∃ env1 env2 S2, t.put x env = some env1 ∧ fb env1 S = some (.nx, env2, S2) ∧ Inv (j + 1) env2 S2) :
    ∃ env' S', forD ok t fb items env S = some (.nx, env', S') ∧ Inv items.length env' S' := by
  rcases forD_rule (fb := fb) Inv (fun _ _ _ => False) items 0 env S (by simpa using hok) hI (fun j x env S hx hj => by
    rw [Nat.zero_add] at hj ⊢
    obtain ⟨e1, e2, S2, a, b, c⟩ := step j x env S hx hj
    exact ⟨e1, e2, S2, a, .inl ⟨b, c⟩⟩) with h | ⟨_, _, _, _, h⟩
  · simpa using h
  · exact h.elim
theorem lcD_rule {ok : Sto → Prop} {t : Tg} {gt : Ev → Sto → Ans Bool} {fe : Ev → Sto → Ans D} {env : Ev} {n : Nat} (Inv : Nat → List D → Sto → Prop) : ∀ (items : List D) (i : Nat) (acc : List D) (S : Sto) (hok : ∀ j acc S, Inv j acc S → ok S) (hI : Inv i acc S)
    (step : ∀ j x acc S, items[j]? = some x → Inv (i + j) acc S → ∃ env1, t.put x env = some env1 ∧ ((∃ S1, gt env1 S = some (.ok false, S1) ∧ Inv (i + j + 1) acc S1) ∨
      ∃ S1 y S2, gt env1 S = some (.ok true, S1) ∧ fe env1 S1 = some (.ok y, S2) ∧ S2[n]? = some (.lst acc) ∧ acc.length < sizeLine ∧ Inv (i + j + 1) (acc ++ [y]) (S2.set n (.lst (acc ++ [y]))))),
    ∃ acc' S', lcD ok t gt fe env n items S = some S' ∧ Inv (i + items.length) acc' S'
  | [], i, acc, S, hok, hI, _ => ⟨acc, S, by unfold lcD; rw [if_pos (hok i acc S hI)], hI⟩
  | x :: xs, i, acc, S, hok, hI, step => by
    unfold lcD
    rw [if_pos (hok i acc S hI)]
    obtain ⟨env1, h1, h2⟩ := step 0 x acc S rfl hI
    rw [h1]
    have ih := fun acc2 S2 hI2 => lcD_rule (n := n) Inv xs (i + 1) acc2 S2 hok hI2 (fun j y acc S hy hj => by
      have q := step (j + 1) y acc S (by simpa using hy) (by rw [show i + (j + 1) = i + 1 + j by omega]; exact hj)
      rw [show i + (j + 1) + 1 = i + 1 + j + 1 by omega] at q
      exact q)
    have el : i + 1 + xs.length = i + (x :: xs).length := by simp only [List.length_cons]; omega
    rcases h2 with ⟨S1, h2, h3⟩ | ⟨S1, y, S2, h2, h3, h4, h5, h6⟩
    · simp only [h2]
      have q := ih acc S1 h3
      rw [el] at q
      exact q
    · simp only [h2, h3, h4]
      rw [if_pos h5]
      have q := ih _ _ h6
      rw [el] at q
      exact q
/-- a comprehension whose parts change nothing -/
theorem lcD_pure {ok : Sto → Prop} {t : Tg} {gt : Ev → Sto → Ans Bool} {fe : Ev → Sto → Ans D} {env : Ev} {S : Sto} (items : List D) (b : D → Bool) (y : D → D) (hok : ∀ acc, ok (S ++ [.lst acc]))
    (step : ∀ x acc, x ∈ items → ∃ env1, t.put x env = some env1 ∧ gt env1 (S ++ [.lst acc]) = some (.ok (b x), S ++ [.lst acc]) ∧ (b x = true → fe env1 (S ++ [.lst acc]) = some (.ok (y x), S ++ [.lst acc]))) (hz : items.length ≤ sizeLine) :
    lcD ok t gt fe env S.length items (S ++ [.lst []]) = some (S ++ [.lst ((items.filter b).map y)]) := by
  obtain ⟨acc', S', h1, h2, h3⟩ := lcD_rule (t := t) (gt := gt) (fe := fe) (env := env) (n := S.length) (fun i acc S' => S' = S ++ [.lst acc] ∧ acc = ((items.take i).filter b).map y) items 0 [] (S ++ [.lst []]) (fun _ acc _ h => by rw [h.1]; exact hok acc) ⟨rfl, by simp⟩ (fun j x acc S2 hx hj => by
    rw [Nat.zero_add] at hj ⊢
    obtain ⟨rfl, hacc⟩ := hj
    obtain ⟨env1, q1, q2, q3⟩ := step x acc (List.mem_of_getElem? hx)
    have tk : items.take (j + 1) = items.take j ++ [x] := by rw [List.take_add_one, hx]; rfl
    refine ⟨env1, q1, ?_⟩
    cases hb : b x with
    | false =>
      rw [hb] at q2
      refine .inl ⟨_, q2, rfl, ?_⟩
      rw [tk, List.filter_append, List.filter_cons, hb, hacc]
      simp
    | true =>
      rw [hb] at q2
      have hlen : acc.length < sizeLine := by
        rw [hacc, List.length_map]
        have a1 := List.length_filter_le b (items.take j)
        have a2 : (items.take j).length ≤ j := by rw [List.length_take]; omega
        have a3 : j < items.length := (List.getElem?_eq_some_iff.mp hx).1
        omega
      refine .inr ⟨_, y x, _, q2, q3 hb, get_last _ _, hlen, set_last _ _ _, ?_⟩
      rw [tk, List.filter_append, List.filter_cons, hb, List.map_append, ← hacc]
      simp)
  rw [h1, h2, h3]
  simp
/-- a comprehension with no condition whose parts change nothing, by places -/
theorem lcD_ix {ok : Sto → Prop} {t : Tg} {gt : Ev → Sto → Ans Bool} {fe : Ev → Sto → Ans D} {env : Ev} {S : Sto} (items : List D) (y : Nat → D) (hok : ∀ acc, ok (S ++ [.lst acc]))
    (step : ∀ j x, items[j]? = some x → ∃ env1, t.put x env = some env1 ∧ gt env1 (S ++ [.lst ((List.range j).map y)]) = some (.ok true, S ++ [.lst ((List.range j).map y)]) ∧ fe env1 (S ++ [.lst ((List.range j).map y)]) = some (.ok (y j), S ++ [.lst ((List.range j).map y)])) (hz : items.length ≤ sizeLine) :
    lcD ok t gt fe env S.length items (S ++ [.lst []]) = some (S ++ [.lst ((List.range items.length).map y)]) := by
  obtain ⟨acc', S', h1, h2, h3⟩ := lcD_rule (t := t) (gt := gt) (fe := fe) (env := env) (n := S.length) (fun i acc S' => S' = S ++ [.lst acc] ∧ acc = (List.range i).map y) items 0 [] (S ++ [.lst []]) (fun _ acc _ h => by rw [h.1]; exact hok acc) ⟨rfl, by simp⟩ (fun j x acc S2 hx hj => by
    rw [Nat.zero_add] at hj ⊢
    obtain ⟨rfl, rfl⟩ := hj
    obtain ⟨env1, q1, q2, q3⟩ := step j x hx
    have a3 : j < items.length := (List.getElem?_eq_some_iff.mp hx).1
    refine ⟨env1, q1, .inr ⟨_, y j, _, q2, q3, get_last _ _, by simp; omega, set_last _ _ _, ?_⟩⟩
    rw [List.range_succ, List.map_append]
    rfl)
  rw [h1, h2, h3, Nat.zero_add]
theorem rangeL0 (n : Nat) : rangeL 0 n = (List.range n).map fun (k : Nat) => D.int (k : Int) := by simp [rangeL]
theorem rangeL_at {n j : Nat} {x : D} (h : (rangeL 0 n)[j]? = some x) : j < n ∧ x = .int (j : Int) := by
  obtain ⟨a, b⟩ := rangeL_get h
  exact ⟨a, by rw [b, Int.zero_add]⟩
/-! == of plain data -/
@[simp] theorem pys_ints : ∀ is : List Int, D.pys (is.map D.int) = some (is.map PyData.int)
  | [] => rfl
  | i :: is => by simp [D.pys, D.py, pys_ints is]
theorem eqvAll_ints : ∀ a b : List Int, PyData.eqvAll (a.map PyData.int) (b.map PyData.int) = decide (a = b)
  | [], [] => by simp [PyData.eqvAll]
  | [], _ :: _ => by simp [PyData.eqvAll]
  | _ :: _, [] => by simp [PyData.eqvAll]
  | x :: a, y :: b => by
    simp only [List.map_cons, PyData.eqvAll, PyData.eqv, eqvAll_ints a b]
    rw [Bool.eq_iff_iff]
    simp
theorem lay_ints : ∀ a : List Int, PyData.canLayAll0 (a.map PyData.int) = true
  | [] => by simp [PyData.canLayAll0]
  | _ :: a => by simp [PyData.canLayAll0, PyData.canLay0, lay_ints a]
theorem depth_ints : ∀ a : List Int, PyData.depthAll (a.map PyData.int) = 0
  | [] => by simp [PyData.depthAll]
  | _ :: a => by simp [PyData.depthAll, PyData.depth, depth_ints a]
theorem shaped_ints (a : List Int) : SeqAt.shaped (.tuple (a.map PyData.int)) = true := by
  simp [SeqAt.shaped, PyData.canLay0, PyData.depth, lay_ints, depth_ints]
@[simp] theorem eqB_ints (a b : List Int) (S : Sto) : eqB (.tup (a.map D.int)) (.tup (b.map D.int)) S = some (decide (a = b)) := by
  simp [eqB, deepEq, toPy, D.py, shaped_ints, PyData.eqv, eqvAll_ints]
/-! slices -/
@[simp] theorem cutD_hi (xs : List D) (k : Nat) : cutD xs none (some (k : Int)) = xs.take k := by
  unfold cutD HT.sIx
  simp only [Nat.sub_zero, List.drop_zero]
  rw [if_neg (by omega), Int.toNat_natCast]
  by_cases h : k ≤ xs.length
  · rw [Nat.min_eq_left h]
  · rw [Nat.min_eq_right (by omega), List.take_length, List.take_of_length_le (by omega)]
@[simp] theorem E_gSl_tup (ds : List D) (lo hi : Option Int) (S : Sto) : gSl (.tup ds) lo hi S = some (.tup (cutD ds lo hi), S) := rfl
@[simp] theorem E_gSl_ref (n : Nat) (lo hi : Option Int) (S : Sto) : gSl (.ref n) lo hi S = match seqOf (.ref n) S with
    | some ds => some (.ref S.length, S ++ [.lst (cutD ds lo hi)])
    | none => none := rfl
@[simp] theorem rangeL_len (lo : Int) (n : Nat) : (rangeL lo n).length = n := rangeL_length
end
end DL
namespace VL
open PySem PySem.Spec PyProof.Rows L2 RT RZ DL

/-! ### plain values: lists are values; `own` is a list that its variable alone holds; `tape` is the tape -/
inductive P where
  | non | bl (b : Bool) | int (i : Int) | str (x : Str) | tup (l : List P) | lst (l : List P) | own (l : List P) | dct (l : List P) | ownd (l : List P) | rot (l : List P) | tape
structure Tau where
  ns : List Int
  pl : Int
  nx : Int
  tot : Int
structure XP where
  cls : Str
  args : Option (List (Str × P))
inductive RP (α : Type) where
  | ok (a : α) | ex (x : XP)
abbrev AP (α : Type) := Option (RP α × Tau)
abbrev PE := List (Option P)
def bindV {α β : Type} (x : AP α) (k : α → Tau → AP β) : AP β := match x with
  | none => none
  | some (.ex e, τ) => some (.ex e, τ)
  | some (.ok a, τ) => k a τ

/-- a dict's entry as data -/
def prD (e : D × D) : D := .tup [e.1, e.2]
section
variable (t : Nat)
mutual
def Rd (S : Sto) (A : Nat → Prop) : P → D → Prop
  | .non, d => d = .non
  | .bl b, d => d = .bl b
  | .int i, d => d = .int i
  | .str x, d => d = .str x
  | .tup l, d => ∃ ds, d = .tup ds ∧ Rds S A l ds
  | .lst l, d => ∃ n ds, d = .ref n ∧ A n ∧ S[n]? = some (.lst ds) ∧ Rds S A l ds
  | .dct l, d => ∃ n es, d = .ref n ∧ A n ∧ S[n]? = some (.dct es) ∧ Rds S A l (es.map prD)
  | .rot l, d => ∃ n ds, d = .ref n ∧ A n ∧ S[n]? = some (.rot ds) ∧ Rds S A l ds
  | .own _, _ => False
  | .ownd _, _ => False
  | .tape, d => d = .ref t
def Rds (S : Sto) (A : Nat → Prop) : List P → List D → Prop
  | [], ds => ds = []
  | p :: ps, ds => ∃ d r, ds = d :: r ∧ Rd S A p d ∧ Rds S A ps r
end
end
section
variable {t : Nat} {S S' : Sto} {A B : Nat → Prop}
mutual
theorem Rd.imp (h : ∀ n o, A n → S[n]? = some o → B n ∧ S'[n]? = some o) : ∀ (p : P) (d : D), Rd t S A p d → Rd t S' B p d
  | .non, _, q => by simpa [Rd] using q
  | .bl _, _, q => by simpa [Rd] using q
  | .int _, _, q => by simpa [Rd] using q
  | .str _, _, q => by simpa [Rd] using q
  | .tape, _, q => by simpa [Rd] using q
  | .own _, _, q => by simp [Rd] at q
  | .tup l, d, q => by
    unfold Rd at q ⊢
    obtain ⟨ds, e, q⟩ := q
    exact ⟨ds, e, Rds.imp h l ds q⟩
  | .lst l, d, q => by
    unfold Rd at q ⊢
    obtain ⟨n, ds, e, a, q1, q⟩ := q
    exact ⟨n, ds, e, (h n _ a q1).1, (h n _ a q1).2, Rds.imp h l ds q⟩
  | .ownd _, _, q => by simp [Rd] at q
  | .dct l, d, q => by
    unfold Rd at q ⊢
    obtain ⟨n, ds, e, a, q1, q⟩ := q
    exact ⟨n, ds, e, (h n _ a q1).1, (h n _ a q1).2, Rds.imp h l _ q⟩
  | .rot l, d, q => by
    unfold Rd at q ⊢
    obtain ⟨n, ds, e, a, q1, q⟩ := q
    exact ⟨n, ds, e, (h n _ a q1).1, (h n _ a q1).2, Rds.imp h l _ q⟩
theorem Rds.imp (h : ∀ n o, A n → S[n]? = some o → B n ∧ S'[n]? = some o) : ∀ (p : List P) (d : List D), Rds t S A p d → Rds t S' B p d
  | [], _, q => by simpa [Rds] using q
  | p :: ps, ds, q => by
    unfold Rds at q ⊢
    obtain ⟨d, r, e, q1, q2⟩ := q
    exact ⟨d, r, e, Rd.imp h p d q1, Rds.imp h ps r q2⟩
end
theorem Rds.nil : Rds t S A [] [] := by
  unfold Rds
  rfl
theorem Rds.cons {p : P} {ps : List P} {d : D} {ds : List D} (h : Rd t S A p d) (g : Rds t S A ps ds) : Rds t S A (p :: ps) (d :: ds) := by
  unfold Rds
  exact ⟨d, ds, rfl, h, g⟩
theorem Rds.len : ∀ {ps : List P} {ds : List D}, Rds t S A ps ds → ps.length = ds.length
  | [], _, q => by
    unfold Rds at q
    subst q
    rfl
  | p :: ps, _, q => by
    unfold Rds at q
    obtain ⟨d, r, rfl, _, q2⟩ := q
    simp [Rds.len q2]
theorem Rds.app : ∀ {ps qs : List P} {ds es : List D}, Rds t S A ps ds → Rds t S A qs es → Rds t S A (ps ++ qs) (ds ++ es)
  | [], _, _, _, q, r => by
    unfold Rds at q
    subst q
    exact r
  | p :: ps, _, _, _, q, r => by
    unfold Rds at q
    obtain ⟨d, r', rfl, q1, q2⟩ := q
    exact Rds.cons q1 (Rds.app q2 r)
theorem Rds.get : ∀ {ps : List P} {ds : List D} {i : Nat} {p : P}, Rds t S A ps ds → ps[i]? = some p → ∃ d, ds[i]? = some d ∧ Rd t S A p d
  | [], _, _, _, _, e => by simp at e
  | p :: ps, _, 0, x, q, e => by
    unfold Rds at q
    obtain ⟨d, r', rfl, q1, q2⟩ := q
    simp at e
    subst e
    exact ⟨d, rfl, q1⟩
  | p :: ps, _, i + 1, x, q, e => by
    unfold Rds at q
    obtain ⟨d, r', rfl, q1, q2⟩ := q
    simp at e
    obtain ⟨z, e1, e2⟩ := Rds.get q2 e
    exact ⟨z, by simpa using e1, e2⟩
theorem Rds.set {p : P} {d : D} (h : Rd t S A p d) : ∀ {ps : List P} {ds : List D} (i : Nat), Rds t S A ps ds → Rds t S A (ps.set i p) (ds.set i d)
  | [], _, i, q => by
    unfold Rds at q
    subst q
    exact Rds.nil
  | x :: ps, _, 0, q => by
    unfold Rds at q
    obtain ⟨d, r', rfl, q1, q2⟩ := q
    exact Rds.cons h q2
  | x :: ps, _, i + 1, q => by
    unfold Rds at q
    obtain ⟨d, r', rfl, q1, q2⟩ := q
    exact Rds.cons q1 (Rds.set h i q2)
theorem Rds.take : ∀ {ps : List P} {ds : List D} (n : Nat), Rds t S A ps ds → Rds t S A (ps.take n) (ds.take n)
  | _, _, 0, _ => by simpa using Rds.nil
  | [], _, n + 1, q => by
    unfold Rds at q
    subst q
    simpa using Rds.nil
  | x :: ps, _, n + 1, q => by
    unfold Rds at q
    obtain ⟨d, r', rfl, q1, q2⟩ := q
    exact Rds.cons q1 (Rds.take n q2)
theorem Rds.drop : ∀ {ps : List P} {ds : List D} (n : Nat), Rds t S A ps ds → Rds t S A (ps.drop n) (ds.drop n)
  | _, _, 0, q => by simpa using q
  | [], _, n + 1, q => by
    unfold Rds at q
    subst q
    simpa using Rds.nil
  | x :: ps, _, n + 1, q => by
    unfold Rds at q
    obtain ⟨d, r', rfl, q1, q2⟩ := q
    exact Rds.drop n q2
theorem Rds.reverse : ∀ {ps : List P} {ds : List D}, Rds t S A ps ds → Rds t S A ps.reverse ds.reverse
  | [], _, q => by
    unfold Rds at q
    subst q
    simpa using Rds.nil
  | x :: ps, _, q => by
    unfold Rds at q
    obtain ⟨d, r', rfl, q1, q2⟩ := q
    rw [List.reverse_cons, List.reverse_cons]
    exact (Rds.reverse q2).app (Rds.cons q1 Rds.nil)

/-! ### flat values hold no list -/
mutual
def P.flat : P → Bool
  | .lst _ => false
  | .own _ => false
  | .dct _ => false
  | .ownd _ => false
  | .rot _ => false
  | .tape => false
  | .tup l => P.flats l
  | _ => true
def P.flats : List P → Bool
  | [] => true
  | p :: ps => P.flat p && P.flats ps
end
mutual
theorem Rd.flat : ∀ (p : P) (d : D), p.flat = true → Rd t S A p d → Rd t S' B p d
  | .non, _, _, q => by simpa [Rd] using q
  | .bl _, _, _, q => by simpa [Rd] using q
  | .int _, _, _, q => by simpa [Rd] using q
  | .str _, _, _, q => by simpa [Rd] using q
  | .tape, _, f, _ => by simp [P.flat] at f
  | .own _, _, _, q => by simp [Rd] at q
  | .tup l, d, f, q => by
    unfold Rd at q ⊢
    obtain ⟨ds, e, q⟩ := q
    exact ⟨ds, e, Rds.flat l ds (by simpa [P.flat] using f) q⟩
  | .lst l, _, f, _ => by simp [P.flat] at f
  | .dct l, _, f, _ => by simp [P.flat] at f
  | .rot l, _, f, _ => by simp [P.flat] at f
  | .ownd _, _, _, q => by simp [Rd] at q
theorem Rds.flat : ∀ (p : List P) (d : List D), P.flats p = true → Rds t S A p d → Rds t S' B p d
  | [], _, _, q => by simpa [Rds] using q
  | p :: ps, ds, f, q => by
    unfold Rds at q ⊢
    obtain ⟨d, r, e, q1, q2⟩ := q
    simp only [P.flats, Bool.and_eq_true] at f
    exact ⟨d, r, e, Rd.flat p d f.1 q1, Rds.flat ps r f.2 q2⟩
end
end

def P.isOwn : P → Bool
  | .own _ => true
  | .ownd _ => true
  | _ => false
/-- a list that is no longer its variable's alone -/
def P.thaw : P → P
  | .own l => .lst l
  | .ownd l => .dct l
  | p => p
/-- what an expression gives: its own list may stand on top. A: all that may be met; B: but what variables own -/
def RdT (t : Nat) (S : Sto) (A B : Nat → Prop) : P → D → Prop
  | .own l, d => ∃ n ds, d = .ref n ∧ A n ∧ S[n]? = some (.lst ds) ∧ Rds t S B l ds
  | .ownd l, d => ∃ n es, d = .ref n ∧ A n ∧ S[n]? = some (.dct es) ∧ Rds t S B l (es.map prD)
  | p, d => Rd t S B p d
/-- what its variable alone holds -/
def OwR (t : Nat) (S : Sto) (B : Nat → Prop) : P → O → Prop
  | .own l, .lst ds => Rds t S B l ds
  | .ownd l, .dct es => Rds t S B l (es.map prD)
  | _, _ => False
theorem RdT.ow {t : Nat} {S : Sto} {A B : Nat → Prop} {p : P} {d : D} (h : RdT t S A B p d) (o : p.isOwn = true) : ∃ n ob, d = .ref n ∧ A n ∧ S[n]? = some ob ∧ OwR t S B p ob := by
  cases p <;> first | cases o | skip
  all_goals (obtain ⟨n, ds, e, a, g, q⟩ := h; exact ⟨n, _, e, a, g, q⟩)
theorem OwR.t {t : Nat} {S : Sto} {A B : Nat → Prop} {p : P} {n : Nat} {ob : O} (q : OwR t S B p ob) (a : A n) (e : S[n]? = some ob) : RdT t S A B p (.ref n) := by
  cases p <;> cases ob <;> first | exact q.elim | skip
  all_goals exact ⟨n, _, rfl, a, e, q⟩
theorem OwR.imp {t : Nat} {S S' : Sto} {B B' : Nat → Prop} (f : ∀ n ob, B n → S[n]? = some ob → B' n ∧ S'[n]? = some ob) {p : P} {ob : O} (q : OwR t S B p ob) : OwR t S' B' p ob := by
  cases p <;> cases ob <;> first | exact q.elim | skip
  all_goals exact Rds.imp f _ _ q
theorem RdT.map' {t : Nat} {S S' : Sto} {A A' B B' : Nat → Prop} {p : P} {d : D} (h : RdT t S A B p d) (g : p.isOwn = true → ∀ n ob, d = .ref n → A n → S[n]? = some ob → A' n ∧ S'[n]? = some ob) (f : ∀ n ob, B n → S[n]? = some ob → B' n ∧ S'[n]? = some ob) : RdT t S' A' B' p d := by
  by_cases o : p.isOwn = true
  · obtain ⟨n, ob, rfl, a, e, q⟩ := h.ow o
    obtain ⟨a', e'⟩ := g o n ob rfl a e
    exact (q.imp f).t a' e'
  · cases p <;> first | exact absurd rfl o | exact Rd.imp f _ _ h
theorem RdT.of {t : Nat} {S : Sto} {A B : Nat → Prop} {p : P} {d : D} (h : Rd t S B p d) : RdT t S A B p d := by
  cases p <;> first | exact h | (unfold Rd at h; exact h.elim)
theorem RdT.rd {t : Nat} {S : Sto} {A B : Nat → Prop} {p : P} {d : D} (h : RdT t S A B p d) (n : p.isOwn = false) : Rd t S B p d := by
  cases p <;> first | exact h | cases n
theorem RdT.thaw {t : Nat} {S : Sto} {A B : Nat → Prop} (hb : ∀ n, B n → A n) {p : P} {d : D} (h : RdT t S A B p d) : Rd t S A p.thaw d := by
  cases p with
  | own l =>
    obtain ⟨n, ds, e, a, g, q⟩ := h
    show Rd t S A (.lst l) d
    unfold Rd
    exact ⟨n, ds, e, a, g, Rds.imp (fun n o b e => ⟨hb n b, e⟩) _ _ q⟩
  | ownd l =>
    obtain ⟨n, ds, e, a, g, q⟩ := h
    show Rd t S A (.dct l) d
    unfold Rd
    exact ⟨n, ds, e, a, g, Rds.imp (fun n o b e => ⟨hb n b, e⟩) _ _ q⟩
  | _ => exact Rd.imp (fun n o b e => ⟨hb n b, e⟩) _ _ h

/-! ### the tape, what stays -/
structure TpOk (t s : Nat) (ns : List Int) (S : Sto) (τ : Tau) : Prop where
  tape : S[t]? = some (.lst [.ref s, .int τ.pl, .int τ.nx, .int τ.tot])
  src : S[s]? = some (.lst (τ.ns.map D.int))
  pos : 0 ≤ τ.pl
  ne : t ≠ s
theorem TpOk.lt {t s : Nat} {ns : List Int} {S : Sto} {τ : Tau} (h : TpOk t s ns S τ) : t < S.length := lst_lt h.tape
/-- the store has grown, the tape alone may be written -/
structure Fr (t : Nat) (S S' : Sto) : Prop where
  len : S.length ≤ S'.length
  old : ∀ n, n < S.length → n ≠ t → S'[n]? = S[n]?
theorem Fr.refl {t : Nat} {S : Sto} : Fr t S S := ⟨Nat.le_refl _, fun _ _ _ => rfl⟩
theorem Fr.trans {t : Nat} {S S' S2 : Sto} (h : Fr t S S') (g : Fr t S' S2) : Fr t S S2 := ⟨Nat.le_trans h.len g.len, fun n a b => by
  rw [g.old n (Nat.lt_of_lt_of_le a h.len) b, h.old n a b]⟩
theorem Fr.app {t : Nat} (S T : Sto) : Fr t S (S ++ T) := ⟨by simp, fun n a _ => List.getElem?_append_left a⟩
theorem Fr.get {t : Nat} {S S' : Sto} (h : Fr t S S') {n : Nat} {o : O} (ne : n ≠ t) (e : S[n]? = some o) : S'[n]? = some o := by
  rw [h.old n (lst_lt e) ne, e]
theorem TpOk.app {t s : Nat} {ns : List Int} {S : Sto} {τ : Tau} (h : TpOk t s ns S τ) (T : Sto) : TpOk t s ns (S ++ T) τ := ⟨get_old h.tape, get_old h.src, h.pos, h.ne⟩
/-- what may be met -/
structure Adm (t : Nat) (A B : Nat → Prop) (S : Sto) : Prop where
  new : ∀ n, S.length ≤ n → B n
  sub : ∀ n, B n → A n
  tape : ¬ A t
theorem Adm.fr {t : Nat} {A B : Nat → Prop} {S S' : Sto} (h : Adm t A B S) (f : S.length ≤ S'.length) : Adm t A B S' := ⟨fun n a => h.new n (Nat.le_trans f a), h.sub, h.tape⟩
section
variable {t : Nat} {S S' : Sto} {A B : Nat → Prop}
theorem Fr.rd (f : Fr t S S') (nt : ¬ B t) {p : P} {d : D} (h : Rd t S B p d) : Rd t S' B p d := Rd.imp (fun n o b e => ⟨b, f.get (fun z => nt (z ▸ b)) e⟩) _ _ h
theorem Fr.rds (f : Fr t S S') (nt : ¬ B t) {p : List P} {d : List D} (h : Rds t S B p d) : Rds t S' B p d := Rds.imp (fun n o b e => ⟨b, f.get (fun z => nt (z ▸ b)) e⟩) _ _ h
theorem Adm.nt (a : Adm t A B S) : ¬ B t := fun h => a.tape (a.sub t h)
theorem Fr.rdt (f : Fr t S S') (a : Adm t A B S) {p : P} {d : D} (h : RdT t S A B p d) : RdT t S' A B p d :=
  h.map' (fun _ n ob _ x e => ⟨x, f.get (fun z => a.tape (z ▸ x)) e⟩) (fun n ob b e => ⟨b, f.get (fun z => a.nt (z ▸ b)) e⟩)
end
/-- the variables -/
structure RelE (t : Nat) (A B : Nat → Prop) (S : Sto) (env : Ev) (pe : PE) : Prop where
  len : env.length = pe.length
  slot : ∀ (i : Nat) (p : P), pe[i]? = some (some p) → ∃ d, env[i]? = some (some d) ∧ RdT t S A B p d
theorem RelE.fr {t : Nat} {S S' : Sto} {A B : Nat → Prop} {env : Ev} {pe : PE} (h : RelE t A B S env pe) (f : Fr t S S') (a : Adm t A B S) : RelE t A B S' env pe := ⟨h.len, fun i p e => by
  obtain ⟨d, h1, h2⟩ := h.slot i p e
  exact ⟨d, h1, f.rdt a h2⟩⟩
def RdX (t : Nat) (S : Sto) (A : Nat → Prop) (x : XP) (e : Exn) : Prop := e.cls = x.cls ∧ match x.args, e.args with
  | none, none => True
  | some fs, some gs => gs.map (·.1) = fs.map (·.1) ∧ Rds t S A (fs.map (·.2)) (gs.map (·.2))
  | _, _ => False
def RR {α β : Type} (t : Nat) (rel : Sto → α → β → Prop) (A : Nat → Prop) (S : Sto) : RP α → R β → Prop
  | .ok p, .ok d => rel S p d
  | .ex x, .ex e => RdX t S A x e
  | _, _ => False

section
variable (t s : Nat) (ns : List Int) {α β γ δ : Type}
/-- one run -/
def Sim1 (rel : Sto → α → β → Prop) (B : Nat → Prop) (S : Sto) (x : Ans β) (y : AP α) : Prop := ∀ r τ', y = some (r, τ') → ∃ r' S', x = some (r', S') ∧ Fr t S S' ∧ TpOk t s ns S' τ' ∧ RR t rel B S' r r'
def SimG (rel : (A B : Nat → Prop) → Sto → α → β → Prop) (f : Ev → Sto → Ans β) (g : PE → Tau → AP α) : Prop := ∀ A B S env pe τ, Adm t A B S → TpOk t s ns S τ → RelE t A B S env pe → Sim1 t s ns (rel A B) B S (f env S) (g pe τ)
abbrev SimE (f : Ev → Sto → Ans D) (g : PE → Tau → AP P) : Prop := SimG t s ns (fun A B S p d => RdT t S A B p d) f g
abbrev SimT (f : Ev → Sto → Ans Bool) (g : PE → Tau → AP Bool) : Prop := SimG t s ns (fun _ _ _ a b => a = b) f g
/-- lists of values: on top of each an own list may stand -/
def RdTs (t : Nat) (S : Sto) (A B : Nat → Prop) : List P → List D → Prop
  | [], ds => ds = []
  | p :: ps, ds => ∃ d r, ds = d :: r ∧ RdT t S A B p d ∧ RdTs t S A B ps r
abbrev SimA (f : Ev → Sto → Ans (List D)) (g : PE → Tau → AP (List P)) : Prop := SimG t s ns (fun A B S p d => RdTs t S A B p d) f g
/-- a value of a new list -/
def RdF (t : Nat) (S0 : Sto) (B : Nat → Prop) (S : Sto) (p : P) (d : D) : Prop := ∃ l n ds, p = .lst l ∧ d = .ref n ∧ S0.length ≤ n ∧ S[n]? = some (.lst ds) ∧ Rds t S (fun m => B m ∧ m ≠ n) l ds
def SimF (f : Ev → Sto → Ans D) (g : PE → Tau → AP P) : Prop := ∀ A B S env pe τ, Adm t A B S → TpOk t s ns S τ → RelE t A B S env pe → Sim1 t s ns (RdF t S B) B S (f env S) (g pe τ)
end
section
variable {t s : Nat} {ns : List Int} {α β γ δ : Type} {S S' S2 : Sto} {A B : Nat → Prop}
theorem Sim1.bind {rel : Sto → α → β → Prop} {rel2 : Sto → γ → δ → Prop} {x : Ans β} {y : AP α} {k : β → Sto → Ans δ} {k2 : α → Tau → AP γ} (h : Sim1 t s ns rel B S x y)
    (hk : ∀ a b S' τ', Fr t S S' → TpOk t s ns S' τ' → rel S' a b → Sim1 t s ns rel2 B S' (k b S') (k2 a τ')) : Sim1 t s ns rel2 B S (bindR x k) (bindV y k2) := fun r τ' e => by
  cases hy : y with
  | none => rw [hy] at e; cases e
  | some q =>
    obtain ⟨r1, τ1⟩ := q
    obtain ⟨r1', S1, e1, f1, t1, q1⟩ := h r1 τ1 hy
    rw [hy] at e
    cases r1 with
    | ex z =>
      cases e
      cases r1' with
      | ok _ => exact q1.elim
      | ex z' => exact ⟨.ex z', S1, by rw [e1]; rfl, f1, t1, q1⟩
    | ok a =>
      cases r1' with
      | ex _ => exact q1.elim
      | ok b =>
        obtain ⟨r2, S2, e2, f2, t2, q2⟩ := hk a b S1 τ1 f1 t1 q1 r τ' e
        exact ⟨r2, S2, by rw [e1]; exact e2, f1.trans f2, t2, q2⟩
theorem Sim1.ret {rel : Sto → α → β → Prop} {a : α} {b : β} {τ : Tau} (h : TpOk t s ns S τ) (r : rel S a b) : Sim1 t s ns rel B S (some (.ok b, S)) (some (.ok a, τ)) := fun _ _ e => by
  cases e
  exact ⟨_, S, rfl, Fr.refl, h, r⟩
theorem Sim1.none {rel : Sto → α → β → Prop} {x : Ans β} : Sim1 t s ns rel B S x (none : AP α) := fun _ _ e => by cases e
theorem Sim1.imp {rel rel2 : Sto → α → β → Prop} {x : Ans β} {y : AP α} (h : Sim1 t s ns rel B S x y) (w : ∀ S' a b, S.length ≤ S'.length → rel S' a b → rel2 S' a b) : Sim1 t s ns rel2 B S x y := fun r τ' e => by
  obtain ⟨r', S', h1, h2, h3, h4⟩ := h r τ' e
  refine ⟨r', S', h1, h2, h3, ?_⟩
  cases r <;> cases r' <;> first | exact h4 | exact w _ _ _ h2.len h4
theorem RdF.rd {S0 : Sto} {p : P} {d : D} (a : Adm t A B S0) (h : RdF t S0 B S p d) : Rd t S B p d := by
  obtain ⟨l, n, ds, rfl, rfl, g, e, q⟩ := h
  unfold Rd
  exact ⟨n, ds, rfl, a.new n g, e, Rds.imp (fun n o b e => ⟨b.1, e⟩) _ _ q⟩
theorem SimF.e {f : Ev → Sto → Ans D} {g : PE → Tau → AP P} (h : SimF t s ns f g) : SimE t s ns f g := fun A B S env pe τ a T r => (h A B S env pe τ a T r).imp fun _ _ _ l q => .of (q.rd a)
theorem RdTs.fr (f : Fr t S S') (a : Adm t A B S) : ∀ {ps : List P} {ds : List D}, RdTs t S A B ps ds → RdTs t S' A B ps ds
  | [], _, h => h
  | p :: ps, _, ⟨d, r, e, h1, h2⟩ => ⟨d, r, e, f.rdt a h1, RdTs.fr f a h2⟩
theorem RdTs.of (ps : List P) : ∀ {ds : List D}, (ps.any P.isOwn = false) → RdTs t S A B ps ds → Rds t S B ps ds := by
  induction ps with
  | nil => exact fun {ds} _ h => by cases h; exact Rds.nil
  | cons p ps ih =>
    rintro _ n ⟨d, r, rfl, h1, h2⟩
    rw [List.any_cons, Bool.or_eq_false_iff] at n
    exact Rds.cons (h1.rd n.1) (ih n.2 h2)
theorem RdTs.thaw (hb : ∀ n, B n → A n) : ∀ {ps : List P} {ds : List D}, RdTs t S A B ps ds → Rds t S A (ps.map P.thaw) ds
  | [], _, h => by cases h; exact Rds.nil
  | p :: ps, _, ⟨d, r, e, h1, h2⟩ => by subst e; exact Rds.cons (h1.thaw hb) (RdTs.thaw hb h2)
end

/-! ### the computations -/
def vVar (i : Nat) : PE → Tau → AP P := fun pe τ => match pe[i]? with
  | some (some p) => some (.ok p, τ)
  | _ => none
def vC (p : P) : PE → Tau → AP P := fun _ τ => some (.ok p, τ)
def okV {α : Type} (x : Option α) (τ : Tau) : AP α := match x with
  | none => none
  | some a => some (.ok a, τ)
def vOp (h : P → P → Option P) (fa fb : PE → Tau → AP P) : PE → Tau → AP P := fun pe τ => bindV (fa pe τ) fun a τ1 => bindV (fb pe τ1) fun b τ2 => okV (h a b) τ2
def vUn (h : P → Option P) (fa : PE → Tau → AP P) : PE → Tau → AP P := fun pe τ => bindV (fa pe τ) fun a τ1 => okV (h a) τ1
def vNil : PE → Tau → AP (List P) := fun _ τ => some (.ok [], τ)
def vCons (fa : PE → Tau → AP P) (fr : PE → Tau → AP (List P)) : PE → Tau → AP (List P) := fun pe τ => bindV (fa pe τ) fun a τ1 => bindV (fr pe τ1) fun r τ2 => some (.ok (a :: r), τ2)
def vCB (h : List P → Option P) (fs : PE → Tau → AP (List P)) : PE → Tau → AP P := fun pe τ => bindV (fs pe τ) fun ds τ1 => okV (h ds) τ1
/-- the items of a list, a tuple -/
def items : P → Option (List P)
  | .tup l => some l
  | .lst l => some l
  | .own l => some l
  | _ => none
def truP : P → Option Bool
  | .non => some false
  | .bl b => some b
  | .int i => some (i != 0)
  | .str x => if x.length ≤ sizeLine then some ((x.length : Int) != 0) else none
  | .tup l => some (!l.isEmpty)
  | .lst l => some (!l.isEmpty)
  | .own l => some (!l.isEmpty)
  | .dct _ => none
  | .ownd _ => none
  | .rot _ => none
  | .tape => none
def vTru (fa : PE → Tau → AP P) : PE → Tau → AP Bool := fun pe τ => bindV (fa pe τ) fun a τ1 => okV (truP a) τ1
def vAnd (fa fb : PE → Tau → AP Bool) : PE → Tau → AP Bool := fun pe τ => bindV (fa pe τ) fun a τ1 => if a = true then fb pe τ1 else some (.ok false, τ1)
def vOr (fa fb : PE → Tau → AP Bool) : PE → Tau → AP Bool := fun pe τ => bindV (fa pe τ) fun a τ1 => if a = true then some (.ok true, τ1) else fb pe τ1
def vNot (fa : PE → Tau → AP Bool) : PE → Tau → AP Bool := fun pe τ => bindV (fa pe τ) fun a τ1 => some (.ok (!a), τ1)
def vAndV (fa fb : PE → Tau → AP P) : PE → Tau → AP P := fun pe τ => bindV (fa pe τ) fun a τ1 => bindV (okV (truP a) τ1) fun c τ1 => if c = true then fb pe τ1 else some (.ok a, τ1)
def vOrV (fa fb : PE → Tau → AP P) : PE → Tau → AP P := fun pe τ => bindV (fa pe τ) fun a τ1 => bindV (okV (truP a) τ1) fun c τ1 => if c = true then some (.ok a, τ1) else fb pe τ1
def vNotV (fa : PE → Tau → AP P) : PE → Tau → AP P := fun pe τ => bindV (fa pe τ) fun a τ1 => bindV (okV (truP a) τ1) fun c τ1 => some (.ok (.bl (!c)), τ1)
def vIf (fc : PE → Tau → AP Bool) (fa fb : PE → Tau → AP P) : PE → Tau → AP P := fun pe τ => bindV (fc pe τ) fun c τ1 => if c = true then fa pe τ1 else fb pe τ1
def pBl : P → Option Bool
  | .bl b => some b
  | _ => none
def vBl (fa : PE → Tau → AP P) : PE → Tau → AP Bool := fun pe τ => bindV (fa pe τ) fun a τ1 => okV (pBl a) τ1

/-! ### the operations -/
section
variable (t : Nat)
/-- an operation that reads; what it gives is met by the operands -/
def OpV (g : D → D → Sto → Option (D × Sto)) (h : P → P → Option P) : Prop := ∀ A B S p q r a b, Adm t A B S → RdT t S A B p a → RdT t S A B q b → h p q = some r → ∃ d T, g a b S = some (d, S ++ T) ∧ Rd t (S ++ T) B r d
/-- one that makes a new list -/
def OpVF (g : D → D → Sto → Option (D × Sto)) (h : P → P → Option P) : Prop := ∀ A B S p q l a b, Adm t A B S → RdT t S A B p a → RdT t S A B q b → h p q = some (.lst l) → ∃ ds, g a b S = some (.ref S.length, S ++ [.lst ds]) ∧ Rds t S B l ds
def UnV (g : D → Sto → Option (D × Sto)) (h : P → Option P) : Prop := ∀ A B S p r a, Adm t A B S → RdT t S A B p a → h p = some r → ∃ d T, g a S = some (d, S ++ T) ∧ Rd t (S ++ T) B r d
def CallV (g : List D → Sto → Option (D × Sto)) (h : List P → Option P) : Prop := ∀ A B S ps r ds, Adm t A B S → RdTs t S A B ps ds → h ps = some r → ∃ d T, g ds S = some (d, S ++ T) ∧ Rd t (S ++ T) B r d
def CallVF (g : List D → Sto → Option (D × Sto)) (h : List P → Option P) : Prop := ∀ A B S ps l es, Adm t A B S → RdTs t S A B ps es → h ps = some (.lst l) → ∃ ds, g es S = some (.ref S.length, S ++ [.lst ds]) ∧ Rds t S B l ds
/-- what it gives is a list, if anything -/
def Lsty {α : Type} (h : α → Option P) : Prop := ∀ a r, h a = some r → ∃ l, r = .lst l
end
section
variable {t s : Nat} {ns : List Int} {fa fb : Ev → Sto → Ans D} {ga gb : PE → Tau → AP P} {fs : Ev → Sto → Ans (List D)} {gs : PE → Tau → AP (List P)}
theorem Rds.freshen {S : Sto} {B : Nat → Prop} {l : List P} {ds : List D} (h : Rds t S B l ds) (T : Sto) : Rds t (S ++ T) (fun m => B m ∧ m ≠ S.length) l ds :=
  Rds.imp (fun n o b e => ⟨⟨b, by have := lst_lt e; omega⟩, get_old e⟩) _ _ h
theorem v_var (i : Nat) : SimE t s ns (dVar i) (vVar i) := fun A B S env pe τ a T r => by
  unfold vVar dVar
  cases h : pe[i]? with
  | none => exact Sim1.none
  | some q =>
    cases q with
    | none => exact Sim1.none
    | some p =>
      obtain ⟨d, h1, h2⟩ := r.slot i p h
      rw [h1]
      exact Sim1.ret T h2
theorem v_c {p : P} {d : D} (h : ∀ S B, Rd t S B p d) : SimE t s ns (dC d) (vC p) := fun A B S env pe τ a T r => Sim1.ret T (.of (h S B))
theorem v_op {g : D → D → Sto → Option (D × Sto)} {h : P → P → Option P} (o : OpV t g h) (ha : SimE t s ns fa ga) (hb : SimE t s ns fb gb) : SimE t s ns (dOp g fa fb) (vOp h ga gb) := fun A B S env pe τ a T r =>
  (ha A B S env pe τ a T r).bind fun x y S1 τ1 f1 T1 q1 => (hb A B S1 env pe τ1 (a.fr f1.len) T1 (r.fr f1 a)).bind fun x2 y2 S2 τ2 f2 T2 q2 => fun r τ' e => by
    cases hh : h x x2 with
    | none => rw [hh] at e; cases e
    | some p =>
      rw [hh] at e
      cases e
      obtain ⟨d, T, e1, e2⟩ := o A B S2 x x2 p y y2 ((a.fr f1.len).fr f2.len) (f2.rdt (a.fr f1.len) q1) q2 hh
      exact ⟨.ok d, S2 ++ T, by rw [e1]; rfl, Fr.app _ _, T2.app T, .of e2⟩
theorem v_opF {g : D → D → Sto → Option (D × Sto)} {h : P → P → Option P} (o : OpVF t g h) (lo : ∀ a, Lsty (h a)) (ha : SimE t s ns fa ga) (hb : SimE t s ns fb gb) : SimF t s ns (dOp g fa fb) (vOp h ga gb) := fun A B S env pe τ a T r =>
  (ha A B S env pe τ a T r).bind fun x y S1 τ1 f1 T1 q1 => (hb A B S1 env pe τ1 (a.fr f1.len) T1 (r.fr f1 a)).bind fun x2 y2 S2 τ2 f2 T2 q2 => fun r τ' e => by
    cases hh : h x x2 with
    | none => rw [hh] at e; cases e
    | some p =>
      rw [hh] at e
      cases e
      obtain ⟨l, rfl⟩ := lo x x2 p hh
      obtain ⟨ds, e1, e2⟩ := o A B S2 x x2 l y y2 ((a.fr f1.len).fr f2.len) (f2.rdt (a.fr f1.len) q1) q2 hh
      exact ⟨.ok (.ref S2.length), S2 ++ [.lst ds], by rw [e1]; rfl, Fr.app _ _, T2.app _, l, S2.length, ds, rfl, rfl, Nat.le_trans f1.len f2.len, get_last _ _, e2.freshen _⟩
theorem v_un {g : D → Sto → Option (D × Sto)} {h : P → Option P} (o : UnV t g h) (ha : SimE t s ns fa ga) : SimE t s ns (dUn g fa) (vUn h ga) := fun A B S env pe τ a T r =>
  (ha A B S env pe τ a T r).bind fun x y S1 τ1 f1 T1 q1 => fun r τ' e => by
    cases hh : h x with
    | none => rw [hh] at e; cases e
    | some p =>
      rw [hh] at e
      cases e
      obtain ⟨d, T, e1, e2⟩ := o A B S1 x p y (a.fr f1.len) q1 hh
      exact ⟨.ok d, S1 ++ T, by rw [e1]; rfl, Fr.app _ _, T1.app T, .of e2⟩
theorem va_nil : SimA t s ns dNil vNil := fun A B S env pe τ a T r => Sim1.ret T rfl
theorem va_cons (ha : SimE t s ns fa ga) (hs : SimA t s ns fs gs) : SimA t s ns (dCons fa fs) (vCons ga gs) := fun A B S env pe τ a T r =>
  (ha A B S env pe τ a T r).bind fun x y S1 τ1 f1 T1 q1 => (hs A B S1 env pe τ1 (a.fr f1.len) T1 (r.fr f1 a)).bind fun x2 y2 S2 τ2 f2 T2 q2 => Sim1.ret T2 ⟨y, y2, rfl, f2.rdt (a.fr f1.len) q1, q2⟩
theorem v_cb {g : List D → Sto → Option (D × Sto)} {h : List P → Option P} (o : CallV t g h) (hs : SimA t s ns fs gs) : SimE t s ns (dCB g fs) (vCB h gs) := fun A B S env pe τ a T r =>
  (hs A B S env pe τ a T r).bind fun x y S1 τ1 f1 T1 q1 => fun r τ' e => by
    cases hh : h x with
    | none => rw [hh] at e; cases e
    | some p =>
      rw [hh] at e
      cases e
      obtain ⟨d, T, e1, e2⟩ := o A B S1 x p y (a.fr f1.len) q1 hh
      exact ⟨.ok d, S1 ++ T, by rw [e1]; rfl, Fr.app _ _, T1.app T, .of e2⟩
theorem v_cbF {g : List D → Sto → Option (D × Sto)} {h : List P → Option P} (o : CallVF t g h) (lo : Lsty h) (hs : SimA t s ns fs gs) : SimF t s ns (dCB g fs) (vCB h gs) := fun A B S env pe τ a T r =>
  (hs A B S env pe τ a T r).bind fun x y S1 τ1 f1 T1 q1 => fun r τ' e => by
    cases hh : h x with
    | none => rw [hh] at e; cases e
    | some p =>
      rw [hh] at e
      cases e
      obtain ⟨l, rfl⟩ := lo x p hh
      obtain ⟨ds, e1, e2⟩ := o A B S1 x l y (a.fr f1.len) q1 hh
      exact ⟨.ok (.ref S1.length), S1 ++ [.lst ds], by rw [e1]; rfl, Fr.app _ _, T1.app _, l, S1.length, ds, rfl, rfl, f1.len, get_last _ _, e2.freshen _⟩
theorem RdT.items {S : Sto} {A B : Nat → Prop} {p : P} {d : D} {l : List P} (h : RdT t S A B p d) (e : items p = some l) : ∃ ds, seqOf d S = some ds ∧ Rds t S B l ds := by
  cases p <;> first | cases e | skip
  · unfold RdT Rd at h
    obtain ⟨ds, rfl, q⟩ := h
    exact ⟨ds, rfl, q⟩
  · unfold RdT Rd at h
    obtain ⟨n, ds, rfl, _, g, q⟩ := h
    exact ⟨ds, by simp [seqOf, g], q⟩
  · obtain ⟨n, ds, rfl, _, g, q⟩ := h
    exact ⟨ds, by simp [seqOf, g], q⟩
theorem Rds.isEmpty {S : Sto} {B : Nat → Prop} {l : List P} {ds : List D} (h : Rds t S B l ds) : ds.isEmpty = l.isEmpty := by
  have := h.len
  cases l <;> cases ds <;> simp_all
theorem RdT.tru {S : Sto} {A B : Nat → Prop} {p : P} {d : D} {b : Bool} (h : RdT t S A B p d) (e : truP p = some b) : truD d S = some b := by
  cases p with
  | non => unfold RdT Rd at h; subst h; exact e
  | bl _ => unfold RdT Rd at h; subst h; exact e
  | int _ => unfold RdT Rd at h; subst h; exact e
  | str _ => unfold RdT Rd at h; subst h; exact e
  | tape => cases e
  | dct _ => cases e
  | ownd _ => cases e
  | rot _ => cases e
  | tup l =>
    obtain ⟨ds, q1, q2⟩ := RdT.items h rfl
    cases e
    unfold RdT Rd at h
    obtain ⟨es, rfl, _⟩ := h
    cases q1
    show some (!ds.isEmpty) = some _
    rw [q2.isEmpty]
  | lst l =>
    obtain ⟨ds, q1, q2⟩ := RdT.items h rfl
    cases e
    unfold RdT Rd at h
    obtain ⟨n, es, rfl, _⟩ := h
    rw [E_truD_ref, q1, Option.map_some, q2.isEmpty]
  | own l =>
    obtain ⟨ds, q1, q2⟩ := RdT.items h rfl
    cases e
    obtain ⟨n, es, rfl, _⟩ := h
    rw [E_truD_ref, q1, Option.map_some, q2.isEmpty]
theorem Sim1.tru {S : Sto} {A B : Nat → Prop} {p : P} {d : D} {τ : Tau} (T : TpOk t s ns S τ) (h : RdT t S A B p d) : Sim1 t s ns (fun _ (a b : Bool) => a = b) B S (okT (truD d S) S) (okV (truP p) τ) := by
  cases e : truP p with
  | none => exact Sim1.none
  | some b => rw [h.tru e]; exact Sim1.ret T rfl
theorem vt_of (ha : SimE t s ns fa ga) : SimT t s ns (dTru fa) (vTru ga) := fun A B S env pe τ a T r => (ha A B S env pe τ a T r).bind fun x y S1 τ1 f1 T1 q1 => Sim1.tru T1 q1
theorem vt_bl (ha : SimE t s ns fa ga) : SimT t s ns (dBl fa) (vBl ga) := fun A B S env pe τ a T r => (ha A B S env pe τ a T r).bind fun x y S1 τ1 f1 T1 q1 => by
  cases x with
  | bl b =>
    unfold RdT Rd at q1
    subst q1
    exact Sim1.ret T1 rfl
  | _ => exact Sim1.none
variable {ha' : Ev → Sto → Ans Bool} {fc fd : Ev → Sto → Ans Bool} {gc gd : PE → Tau → AP Bool}
theorem vt_and (ha : SimT t s ns fc gc) (hb : SimT t s ns fd gd) : SimT t s ns (dAnd fc fd) (vAnd gc gd) := fun A B S env pe τ a T r => (ha A B S env pe τ a T r).bind fun x y S1 τ1 f1 T1 q1 => by
  subst q1
  cases x with
  | true => exact hb A B S1 env pe τ1 (a.fr f1.len) T1 (r.fr f1 a)
  | false => exact Sim1.ret T1 rfl
theorem vt_or (ha : SimT t s ns fc gc) (hb : SimT t s ns fd gd) : SimT t s ns (dOr fc fd) (vOr gc gd) := fun A B S env pe τ a T r => (ha A B S env pe τ a T r).bind fun x y S1 τ1 f1 T1 q1 => by
  subst q1
  cases x with
  | false => exact hb A B S1 env pe τ1 (a.fr f1.len) T1 (r.fr f1 a)
  | true => exact Sim1.ret T1 rfl
theorem vt_not (ha : SimT t s ns fc gc) : SimT t s ns (dNot fc) (vNot gc) := fun A B S env pe τ a T r => (ha A B S env pe τ a T r).bind fun x y S1 τ1 f1 T1 q1 => by
  subst q1
  exact Sim1.ret T1 rfl
theorem vt_true : SimT t s ns dTrue (fun _ τ => some (.ok true, τ)) := fun A B S env pe τ a T r => Sim1.ret T rfl
theorem v_and (ha : SimE t s ns fa ga) (hb : SimE t s ns fb gb) : SimE t s ns (dAndV fa fb) (vAndV ga gb) := fun A B S env pe τ a T r => (ha A B S env pe τ a T r).bind fun x y S1 τ1 f1 T1 q1 => by
  refine (Sim1.tru T1 q1).bind fun c c' S2 τ2 f2 T2 q2 => ?_
  subst q2
  cases c with
  | true => exact hb A B S2 env pe τ2 ((a.fr f1.len).fr f2.len) T2 ((r.fr f1 a).fr f2 (a.fr f1.len))
  | false => exact Sim1.ret T2 (f2.rdt (a.fr f1.len) q1)
theorem v_or (ha : SimE t s ns fa ga) (hb : SimE t s ns fb gb) : SimE t s ns (dOrV fa fb) (vOrV ga gb) := fun A B S env pe τ a T r => (ha A B S env pe τ a T r).bind fun x y S1 τ1 f1 T1 q1 => by
  refine (Sim1.tru T1 q1).bind fun c c' S2 τ2 f2 T2 q2 => ?_
  subst q2
  cases c with
  | false => exact hb A B S2 env pe τ2 ((a.fr f1.len).fr f2.len) T2 ((r.fr f1 a).fr f2 (a.fr f1.len))
  | true => exact Sim1.ret T2 (f2.rdt (a.fr f1.len) q1)
theorem v_not (ha : SimE t s ns fa ga) : SimE t s ns (dNotV fa) (vNotV ga) := fun A B S env pe τ a T r => (ha A B S env pe τ a T r).bind fun x y S1 τ1 f1 T1 q1 => by
  refine (Sim1.tru T1 q1).bind fun c c' S2 τ2 f2 T2 q2 => ?_
  subst q2
  exact Sim1.ret T2 (.of (by unfold Rd; rfl))
theorem v_if (hc : SimT t s ns fc gc) (ha : SimE t s ns fa ga) (hb : SimE t s ns fb gb) : SimE t s ns (dIf fc fa fb) (vIf gc ga gb) := fun A B S env pe τ a T r => (hc A B S env pe τ a T r).bind fun x y S1 τ1 f1 T1 q1 => by
  subst q1
  cases x with
  | true => exact ha A B S1 env pe τ1 (a.fr f1.len) T1 (r.fr f1 a)
  | false => exact hb A B S1 env pe τ1 (a.fr f1.len) T1 (r.fr f1 a)

/-! ### calls -/
abbrev MirV := List P → Tau → AP P
/-- the def F does G -/
def VOk (t s : Nat) (ns : List Int) (F : Mir) (G : MirV) : Prop := ∀ A S ds ps τ, Adm t A A S → Rds t S A ps ds → TpOk t s ns S τ → Sim1 t s ns (fun S p d => Rd t S A p d) A S (F ds S) (G ps τ)
/-- where an own list is given away for reading, the answer holds no list -/
def flatR : AP P → AP P
  | some (.ok p, τ) => if p.flat = true then some (.ok p, τ) else none
  | _ => none
def vCallP (G : MirV) (ps : List P) (τ : Tau) : AP P := if ps.any P.isOwn = true then flatR (G (ps.map P.thaw) τ) else G ps τ
def vCall (G : MirV) (gs : PE → Tau → AP (List P)) : PE → Tau → AP P := fun pe τ => bindV (gs pe τ) fun ps τ1 => vCallP G ps τ1
theorem callP {F : Mir} {G : MirV} {A B : Nat → Prop} {S : Sto} {ps : List P} {ds : List D} {τ : Tau} (o : VOk t s ns F G) (a : Adm t A B S) (h : RdTs t S A B ps ds) (T : TpOk t s ns S τ) : Sim1 t s ns (fun S p d => RdT t S A B p d) B S (F ds S) (vCallP G ps τ) := by
  unfold vCallP
  split
  · intro r τ' e
    cases hg : G (ps.map P.thaw) τ with
    | none => rw [hg] at e; cases e
    | some q =>
      obtain ⟨q, τ1⟩ := q
      rw [hg] at e
      cases q with
      | ex _ => cases e
      | ok p =>
        simp only [flatR] at e
        split at e
        · rename_i hf
          cases e
          obtain ⟨r', S', h1, h2, h3, h4⟩ := o A S ds _ τ ⟨fun n z => a.sub n (a.new n z), fun _ z => z, a.tape⟩ (h.thaw a.sub) T _ _ hg
          cases r' with
          | ex _ => exact h4.elim
          | ok d => exact ⟨.ok d, S', h1, h2, h3, RdT.of (Rd.flat p d hf h4)⟩
        · cases e
  · rename_i hn
    have hn : ps.any P.isOwn = false := by simpa using hn
    exact (o B S ds ps τ ⟨a.new, fun _ z => z, a.nt⟩ (RdTs.of ps hn h) T).imp fun _ _ _ _ q => RdT.of q
theorem v_call {F : Mir} {G : MirV} (o : VOk t s ns F G) (hs : SimA t s ns fs gs) : SimE t s ns (dCall F fs) (vCall G gs) := fun A B S env pe τ a T r =>
  (hs A B S env pe τ a T r).bind fun x y S1 τ1 f1 T1 q1 => callP o (a.fr f1.len) q1 T1
theorem RdTs.app {S : Sto} {A B : Nat → Prop} : ∀ {ps qs : List P} {ds es : List D}, RdTs t S A B ps ds → RdTs t S A B qs es → RdTs t S A B (ps ++ qs) (ds ++ es)
  | [], _, _, _, h, g => by cases h; exact g
  | p :: ps, _, _, _, ⟨d, r, e, h1, h2⟩, g => by subst e; exact ⟨d, _, rfl, h1, RdTs.app h2 g⟩
def vCallD (G : MirV) (dd : List P) (gs : PE → Tau → AP (List P)) : PE → Tau → AP P := fun pe τ => bindV (gs pe τ) fun ps τ1 => vCallP G (ps ++ dd) τ1
theorem v_callD {F : Mir} {G : MirV} {dd : List D} {dp : List P} (o : VOk t s ns F G) (hd : ∀ S A B, RdTs t S A B dp dd) (hs : SimA t s ns fs gs) : SimE t s ns (dCallD F dd fs) (vCallD G dp gs) := fun A B S env pe τ a T r =>
  (hs A B S env pe τ a T r).bind fun x y S1 τ1 f1 T1 q1 => callP o (a.fr f1.len) (q1.app (hd _ _ _)) T1
theorem RdTs.len {S : Sto} {A B : Nat → Prop} : ∀ {ps : List P} {ds : List D}, RdTs t S A B ps ds → ps.length = ds.length
  | [], _, h => by cases h; rfl
  | p :: ps, _, ⟨d, r, e, h1, h2⟩ => by subst e; simp [RdTs.len h2]
def vCallK (G : MirV) (n k : Nat) (gs gk : PE → Tau → AP (List P)) : PE → Tau → AP P := fun pe τ => bindV (gs pe τ) fun ps τ1 => bindV (gk pe τ1) fun qs τ2 => if ps.length = n ∧ qs.length = k then vCallP G (ps ++ qs) τ2 else none
theorem v_callK {F : Mir} {G : MirV} {n k : Nat} {fk : Ev → Sto → Ans (List D)} {gk : PE → Tau → AP (List P)} (o : VOk t s ns F G) (hs : SimA t s ns fs gs) (hk : SimA t s ns fk gk) : SimE t s ns (dCallK F n k fs fk) (vCallK G n k gs gk) := fun A B S env pe τ a T r =>
  (hs A B S env pe τ a T r).bind fun x y S1 τ1 f1 T1 q1 => (hk A B S1 env pe τ1 (a.fr f1.len) T1 (r.fr f1 a)).bind fun x2 y2 S2 τ2 f2 T2 q2 => by
    by_cases hc : x.length = n ∧ x2.length = k
    · have hc' : y.length = n ∧ y2.length = k := by rw [← q1.len, ← q2.len]; exact hc
      show Sim1 _ _ _ _ _ _ (if y.length = n ∧ y2.length = k then F (y ++ y2) S2 else none) (if x.length = n ∧ x2.length = k then vCallP G (x ++ x2) τ2 else none)
      rw [if_pos hc, if_pos hc']
      exact callP o ((a.fr f1.len).fr f2.len) ((q1.fr f2 (a.fr f1.len)).app q2) T2
    · show Sim1 _ _ _ _ _ _ _ (if x.length = n ∧ x2.length = k then vCallP G (x ++ x2) τ2 else none)
      rw [if_neg hc]
      exact Sim1.none
end
end VL
namespace VL
open PySem PySem.Spec PyProof.Rows L2 RT RZ DL

/-! ### statements -/
inductive OutP where
  | nx | rt (p : P) | bk | ct | ex (x : XP)
abbrev AnsV := Option (OutP × PE × Tau)
def bindSV {α : Type} (x : AP α) (pe : PE) (k : α → Tau → AnsV) : AnsV := match x with
  | none => none
  | some (.ex e, τ) => some (.ex e, pe, τ)
  | some (.ok a, τ) => k a τ
abbrev Ow := Nat → Option Nat
def Av (A : Nat → Prop) (o : Ow) : Nat → Prop := fun n => A n ∧ ∀ i, o i ≠ some n
structure Rel (t b : Nat) (A : Nat → Prop) (o : Ow) (S : Sto) (env : Ev) (pe : PE) : Prop where
  len : env.length = pe.length
  slot : ∀ (i : Nat) (p : P), pe[i]? = some (some p) → ∃ d, env[i]? = some (some d) ∧ RdT t S A (Av A o) p d ∧ (p.isOwn = true → ∃ n, d = .ref n ∧ o i = some n)
  inj : ∀ i j n, o i = some n → o j = some n → i = j
  own : ∀ i n, o i = some n → A n ∧ b ≤ n ∧ n < S.length
structure AdmS (t s b : Nat) (A : Nat → Prop) (S : Sto) : Prop where
  bl : b ≤ S.length
  new : ∀ n, b ≤ n → A n
  tape : ¬ A t
  src : s < b
theorem Rel.e {t b : Nat} {A : Nat → Prop} {o : Ow} {S : Sto} {env : Ev} {pe : PE} (h : Rel t b A o S env pe) : RelE t A (Av A o) S env pe := ⟨h.len, fun i p e => by
  obtain ⟨d, h1, h2, _⟩ := h.slot i p e
  exact ⟨d, h1, h2⟩⟩
theorem Rel.adm {t s b : Nat} {A : Nat → Prop} {o : Ow} {S : Sto} {env : Ev} {pe : PE} (h : Rel t b A o S env pe) (a : AdmS t s b A S) : Adm t A (Av A o) S := ⟨fun n g => ⟨a.new n (Nat.le_trans a.bl g), fun i e => by have := (h.own i n e).2.2; omega⟩, fun n g => g.1, a.tape⟩
/-- the store goes on: what nobody owned stays, what is owned is old or new -/
structure Stp (t : Nat) (S : Sto) (o : Ow) (S' : Sto) (o' : Ow) : Prop where
  len : S.length ≤ S'.length
  old : ∀ n, n < S.length → n ≠ t → (∀ i, o i ≠ some n) → S'[n]? = S[n]?
  own : ∀ i n, o' i = some n → (∃ j, o j = some n) ∨ S.length ≤ n
theorem Stp.refl {t : Nat} {S : Sto} {o : Ow} : Stp t S o S o := ⟨Nat.le_refl _, fun _ _ _ _ => rfl, fun i n h => .inl ⟨i, h⟩⟩
theorem Stp.trans {t : Nat} {S S' S2 : Sto} {o o' o2 : Ow} (h : Stp t S o S' o') (g : Stp t S' o' S2 o2) : Stp t S o S2 o2 := ⟨Nat.le_trans h.len g.len, fun n a b c => by
  rw [g.old n (Nat.lt_of_lt_of_le a h.len) b fun i e => ?_, h.old n a b c]
  rcases h.own i n e with ⟨j, e⟩ | e
  · exact c j e
  · omega, fun i n e => by
  rcases g.own i n e with ⟨j, e⟩ | e
  · exact h.own j n e
  · exact .inr (Nat.le_trans h.len e)⟩
theorem Fr.stp {t : Nat} {S S' : Sto} (h : Fr t S S') (o : Ow) : Stp t S o S' o := ⟨h.len, fun n a b _ => h.old n a b, fun i n e => .inl ⟨i, e⟩⟩
theorem Rel.fr {t s b : Nat} {A : Nat → Prop} {o : Ow} {S S' : Sto} {env : Ev} {pe : PE} (h : Rel t b A o S env pe) (a : AdmS t s b A S) (f : Fr t S S') : Rel t b A o S' env pe := ⟨h.len, fun i p e => by
  obtain ⟨d, h1, h2, h3⟩ := h.slot i p e
  exact ⟨d, h1, f.rdt (h.adm a) h2, h3⟩, h.inj, fun i n e => let ⟨x, y, z⟩ := h.own i n e; ⟨x, y, Nat.lt_of_lt_of_le z f.len⟩⟩
theorem AdmS.fr {t s b : Nat} {A : Nat → Prop} {S S' : Sto} (a : AdmS t s b A S) (f : S.length ≤ S'.length) : AdmS t s b A S' := ⟨Nat.le_trans a.bl f, a.new, a.tape, a.src⟩
theorem Stp.imp {t : Nat} {A : Nat → Prop} {S S' : Sto} {o o' : Ow} (h : Stp t S o S' o') (nt : ¬ A t) (n : Nat) (ob : O) (a : Av A o n) (e : S[n]? = some ob) : Av A o' n ∧ S'[n]? = some ob := by
  have lt := lst_lt e
  refine ⟨⟨a.1, fun i z => ?_⟩, by rw [h.old n lt (fun z => nt (z ▸ a.1)) a.2, e]⟩
  rcases h.own i n z with ⟨j, z⟩ | z
  · exact a.2 j z
  · omega
theorem Stp.rd {t : Nat} {A : Nat → Prop} {S S' : Sto} {o o' : Ow} (h : Stp t S o S' o') (nt : ¬ A t) {p : P} {d : D} (q : Rd t S (Av A o) p d) : Rd t S' (Av A o') p d := Rd.imp (fun n ob a e => by
  have lt := lst_lt e
  refine ⟨⟨a.1, fun i z => ?_⟩, by rw [h.old n lt (fun z => nt (z ▸ a.1)) a.2, e]⟩
  rcases h.own i n z with ⟨j, z⟩ | z
  · exact a.2 j z
  · omega) _ _ q
theorem Stp.rds {t : Nat} {A : Nat → Prop} {S S' : Sto} {o o' : Ow} (h : Stp t S o S' o') (nt : ¬ A t) {p : List P} {d : List D} (q : Rds t S (Av A o) p d) : Rds t S' (Av A o') p d := Rds.imp (fun n ob a e => by
  have lt := lst_lt e
  refine ⟨⟨a.1, fun i z => ?_⟩, by rw [h.old n lt (fun z => nt (z ▸ a.1)) a.2, e]⟩
  rcases h.own i n z with ⟨j, z⟩ | z
  · exact a.2 j z
  · omega) _ _ q
def RO (t b : Nat) (A : Nat → Prop) (o : Ow) (S : Sto) (env : Ev) (pe : PE) : OutP → Out → Prop
  | .nx, .nx => Rel t b A o S env pe
  | .bk, .bk => Rel t b A o S env pe
  | .ct, .ct => Rel t b A o S env pe
  | .rt p, .rt d => Rd t S A p d
  | .ex x, .ex e => RdX t S A x e
  | _, _ => False
section
variable (t s : Nat) (ns : List Int)
def Sim2 (b : Nat) (A : Nat → Prop) (o : Ow) (S : Sto) (x : AnsS) (y : AnsV) : Prop := ∀ r pe' τ', y = some (r, pe', τ') → ∃ r' env' S' o', x = some (r', env', S') ∧ Stp t S o S' o' ∧ TpOk t s ns S' τ' ∧ RO t b A o' S' env' pe' r r'
def SimS (f : Ev → Sto → AnsS) (g : PE → Tau → AnsV) : Prop := ∀ b A o S env pe τ, AdmS t s b A S → TpOk t s ns S τ → Rel t b A o S env pe → Sim2 t s ns b A o S (f env S) (g pe τ)
end
section
variable {t s : Nat} {ns : List Int} {b : Nat} {A B : Nat → Prop} {o o' : Ow} {S S' : Sto} {env env' : Ev} {pe pe' : PE} {τ τ' : Tau} {x : AnsS} {y : AnsV}
theorem Sim2.none : Sim2 t s ns b A o S x (none : AnsV) := fun _ _ _ e => by cases e
theorem Sim2.ret {r : OutP} {r' : Out} (T : TpOk t s ns S τ) (q : RO t b A o S env pe r r') : Sim2 t s ns b A o S (some (r', env, S)) (some (r, pe, τ)) := fun _ _ _ e => by
  cases e
  exact ⟨r', env, S, o, rfl, Stp.refl, T, q⟩
theorem Sim2.stp (h : Sim2 t s ns b A o' S' x y) (f : Stp t S o S' o') : Sim2 t s ns b A o S x y := fun r pe' τ' e => by
  obtain ⟨r', env', S2, o2, h1, h2, h3⟩ := h r pe' τ' e
  exact ⟨r', env', S2, o2, h1, f.trans h2, h3⟩
theorem RdX.mono (hb : ∀ n, B n → A n) {z : XP} {e : Exn} (h : RdX t S B z e) : RdX t S A z e := by
  obtain ⟨h1, h2⟩ := h
  refine ⟨h1, ?_⟩
  split at h2
  · trivial
  · exact ⟨h2.1, Rds.imp (fun n o b e => ⟨hb n b, e⟩) _ _ h2.2⟩
  · exact h2
theorem Sim2.bind {α β : Type} {rel : Sto → α → β → Prop} {x : Ans β} {y : AP α} {k : β → Sto → AnsS} {k2 : α → Tau → AnsV} (h : Sim1 t s ns rel (Av A o) S x y)
    (hk : ∀ a c S' τ', Fr t S S' → TpOk t s ns S' τ' → rel S' a c → Sim2 t s ns b A o S' (k c S') (k2 a τ')) : Sim2 t s ns b A o S (bindS x env k) (bindSV y pe k2) := fun r pe' τ' e => by
  cases hy : y with
  | none => rw [hy] at e; cases e
  | some q =>
    obtain ⟨r1, τ1⟩ := q
    obtain ⟨r1', S1, e1, f1, t1, q1⟩ := h r1 τ1 hy
    rw [hy] at e
    cases r1 with
    | ex z =>
      cases e
      cases r1' with
      | ok _ => exact q1.elim
      | ex z' => exact ⟨.ex z', env, S1, o, by rw [e1]; rfl, f1.stp o, t1, RdX.mono (fun n a => a.1) q1⟩
    | ok a =>
      cases r1' with
      | ex _ => exact q1.elim
      | ok c =>
        obtain ⟨r2, env2, S2, o2, e2, f2, q2⟩ := hk a c S1 τ1 f1 t1 q1 r pe' τ' e
        exact ⟨r2, env2, S2, o2, by rw [e1]; exact e2, (f1.stp o).trans f2, q2⟩
end
def vNext : PE → Tau → AnsV := fun pe τ => some (.nx, pe, τ)
def vBreak : PE → Tau → AnsV := fun pe τ => some (.bk, pe, τ)
def vCont : PE → Tau → AnsV := fun pe τ => some (.ct, pe, τ)
def vSeq (f g : PE → Tau → AnsV) : PE → Tau → AnsV := fun pe τ => match f pe τ with
  | some (.nx, pe1, τ1) => g pe1 τ1
  | x => x
mutual
def putP : Tg → P → PE → Option PE
  | .nm i, p, pe => if p.isOwn = true then none else some (pe.set i (some p))
  | .tp l, .tup ps, pe => putPs l ps pe
  | .tp _, _, _ => none
def putPs : List Tg → List P → PE → Option PE
  | [], [], pe => some pe
  | t :: ts, p :: ps, pe => match putP t p pe with
    | some pe1 => putPs ts ps pe1
    | none => none
  | _, _, _ => none
end
def vAsg (tg : Tg) (ge : PE → Tau → AP P) : PE → Tau → AnsV := fun pe τ => bindSV (ge pe τ) pe fun p τ1 => match putP tg p pe with
  | some pe1 => some (.nx, pe1, τ1)
  | none => none
/-- a variable gets a new list for its own -/
def vAsgO (i : Nat) (ge : PE → Tau → AP P) : PE → Tau → AnsV := fun pe τ => bindSV (ge pe τ) pe fun p τ1 => match p with
  | .lst l => some (.nx, pe.set i (some (.own l)), τ1)
  | _ => none
/-- from here on the variable's list is read alone -/
def thawAt (i : Nat) (pe : PE) : PE := match pe[i]? with
  | some (some p) => if p.isOwn = true then pe.set i (some p.thaw) else pe
  | _ => pe
def vThaw (i : Nat) (g : PE → Tau → AnsV) : PE → Tau → AnsV := fun pe τ => g (thawAt i pe) τ
def vExpr (ge : PE → Tau → AP P) : PE → Tau → AnsV := fun pe τ => bindSV (ge pe τ) pe fun _ τ1 => some (.nx, pe, τ1)
def vRet (ge : PE → Tau → AP P) : PE → Tau → AnsV := fun pe τ => bindSV (ge pe τ) pe fun p τ1 => some (.rt p.thaw, pe, τ1)
def vRetN : PE → Tau → AnsV := fun pe τ => some (.rt .non, pe, τ)
def vIfS (gc : PE → Tau → AP Bool) (f g : PE → Tau → AnsV) : PE → Tau → AnsV := fun pe τ => bindSV (gc pe τ) pe fun c τ1 => if c = true then f pe τ1 else g pe τ1
def whileV (gc : PE → Tau → AP Bool) (gb : PE → Tau → AnsV) : Nat → PE → Tau → AnsV
  | 0, _, _ => none
  | n + 1, pe, τ => bindSV (gc pe τ) pe fun c τ1 => if c = true then match gb pe τ1 with
      | some (.nx, pe2, τ2) => whileV gc gb n pe2 τ2
      | some (.ct, pe2, τ2) => whileV gc gb n pe2 τ2
      | some (.bk, pe2, τ2) => some (.nx, pe2, τ2)
      | x => x
    else some (.nx, pe, τ1)
def forV (tg : Tg) (gb : PE → Tau → AnsV) : List P → PE → Tau → AnsV
  | [], pe, τ => some (.nx, pe, τ)
  | x :: xs, pe, τ => match putP tg x pe with
      | none => none
      | some pe1 => match gb pe1 τ with
        | some (.nx, pe2, τ2) => forV tg gb xs pe2 τ2
        | some (.ct, pe2, τ2) => forV tg gb xs pe2 τ2
        | some (.bk, pe2, τ2) => some (.nx, pe2, τ2)
        | y => y
def vFor (gi : PE → Tau → AP (List P)) (tg : Tg) (gb : PE → Tau → AnsV) : PE → Tau → AnsV := fun pe τ => bindSV (gi pe τ) pe fun l τ1 => forV tg gb l pe τ1
/-- x.append(..) -/
def vAppend (i : Nat) (ge : PE → Tau → AP P) : PE → Tau → AnsV := fun pe τ => match pe[i]? with
  | some (some (.own _)) => bindSV (ge pe τ) pe fun p τ1 => if p.isOwn = true then none else match pe[i]? with
    | some (some (.own l)) => if l.length < sizeLine then some (.nx, pe.set i (some (.own (l ++ [p]))), τ1) else none
    | _ => none
  | _ => none
/-- x.pop() as a statement -/
def vPopS (i : Nat) : PE → Tau → AnsV := fun pe τ => match pe[i]? with
  | some (some (.own l)) => if l.length = 0 then none else some (.nx, pe.set i (some (.own l.dropLast)), τ)
  | _ => none
/-- x[..] = .. -/
def vSetI (i : Nat) (ge gi : PE → Tau → AP P) : PE → Tau → AnsV := fun pe τ => bindSV (ge pe τ) pe fun p τ1 => match pe[i]? with
  | some (some (.own _)) => bindSV (gi pe τ1) pe fun k τ2 => if p.isOwn = true then none else match pe[i]?, k with
    | some (some (.own l)), .int k => match ixN l.length k with
      | some j => some (.nx, pe.set i (some (.own (l.set j p))), τ2)
      | none => none
    | _, _ => none
  | _ => none
def vAug (i : Nat) (h : P → P → Option P) (ge : PE → Tau → AP P) : PE → Tau → AnsV := fun pe τ => match pe[i]? with
  | some (some x) => bindSV (ge pe τ) pe fun y τ1 => match h x y with
    | some z => if z.isOwn = true then none else some (.nx, pe.set i (some z), τ1)
    | none => none
  | _ => none
/-- a change of the variables' own lists -/
def setO (o : Ow) (i : Nat) (x : Option Nat) : Ow := fun j => if j = i then x else o j
section
variable {t s : Nat} {ns : List Int} {b : Nat} {A B : Nat → Prop} {o o' : Ow} {S S' : Sto} {env env' : Ev} {pe pe' : PE} {τ τ' : Tau} {f f2 : Ev → Sto → AnsS} {g g2 : PE → Tau → AnsV} {fe fi : Ev → Sto → Ans D} {ge gi : PE → Tau → AP P}
theorem setO_self {i : Nat} {x : Option Nat} : setO o i x i = x := if_pos rfl
theorem setO_ne {i j : Nat} {x : Option Nat} (h : j ≠ i) : setO o i x j = o j := if_neg h
theorem setO_stp {i : Nat} : Stp t S o S (setO o i none) := ⟨Nat.le_refl _, fun _ _ _ _ => rfl, fun j n e => by
  by_cases h : j = i
  · subst h; rw [setO_self] at e; cases e
  · rw [setO_ne h] at e; exact .inl ⟨j, e⟩⟩
theorem get_setS {α : Type} {l : List α} {i j : Nat} {x y : α} (h : (l.set i x)[j]? = some y) : (j = i ∧ x = y ∧ i < l.length) ∨ (j ≠ i ∧ l[j]? = some y) := by
  by_cases e : i = j
  · subst e
    have hl : i < l.length := by
      have := (List.getElem?_eq_some_iff.mp h).1
      simpa using this
    rw [List.getElem?_set_self hl] at h
    cases h
    exact .inl ⟨rfl, rfl, hl⟩
  · rw [List.getElem?_set_ne e] at h
    exact .inr ⟨fun z => e z.symm, h⟩
/-- a variable gets what is not its own -/
theorem Rel.set (h : Rel t b A o S env pe) (nt : ¬ A t) {p : P} {d : D} (q : Rd t S (Av A o) p d) (i : Nat) : Rel t b A (setO o i none) S (env.set i (some d)) (pe.set i (some p)) := by
  have st : Stp t S o S (setO o i none) := setO_stp
  have np : p.isOwn = false := by cases p <;> first | rfl | (unfold Rd at q; exact q.elim)
  refine ⟨by simp [h.len], fun j x e => ?_, fun j k n e1 e2 => ?_, fun j n e => ?_⟩
  · rcases get_setS e with ⟨rfl, e, hl⟩ | ⟨ne, e⟩
    · cases e
      exact ⟨d, List.getElem?_set_self (by rw [h.len]; exact hl), .of (st.rd nt q), fun z => by rw [np] at z; cases z⟩
    · obtain ⟨d', h1, h2, h3⟩ := h.slot j x e
      refine ⟨d', by rw [List.getElem?_set_ne (fun z => ne z.symm)]; exact h1, ?_, fun z => ?_⟩
      · exact h2.map' (fun _ n ob _ k2 k3 => ⟨k2, k3⟩) (st.imp nt)
      · obtain ⟨n, e1, e2⟩ := h3 z
        exact ⟨n, e1, by rw [setO_ne ne]; exact e2⟩
  · by_cases c1 : j = i
    · subst c1; rw [setO_self] at e1; cases e1
    · by_cases c2 : k = i
      · subst c2; rw [setO_self] at e2; cases e2
      · rw [setO_ne c1] at e1; rw [setO_ne c2] at e2; exact h.inj j k n e1 e2
  · by_cases c1 : j = i
    · subst c1; rw [setO_self] at e; cases e
    · rw [setO_ne c1] at e; exact h.own j n e
/-- the same, while the own lists change: what lies in o alone -/
theorem Rel.shift (h : Rel t b A o S env pe) (st : Stp t S o S' o') (nt : ¬ A t) (hs : ∀ i n, o i = some n → S'[n]? = S[n]?) (ho : ∀ i, o' i = o i) (hl : S.length ≤ S'.length) : Rel t b A o' S' env pe := by
  refine ⟨h.len, fun j x e => ?_, fun j k n e1 e2 => h.inj j k n (ho j ▸ e1) (ho k ▸ e2), fun j n e => ?_⟩
  · obtain ⟨d', h1, h2, h3⟩ := h.slot j x e
    refine ⟨d', h1, ?_, fun z => by rw [ho]; exact h3 z⟩
    refine h2.map' (fun ow n ob k1 k2 k3 => ?_) (st.imp nt)
    obtain ⟨m, e1, e2⟩ := h3 ow
    cases k1
    cases e1
    exact ⟨k2, by rw [hs j n e2]; exact k3⟩
  · obtain ⟨x, y, z⟩ := h.own j n (ho j ▸ e)
    exact ⟨x, y, Nat.lt_of_lt_of_le z hl⟩
/-- a variable gets a new list for its own -/
theorem Rel.setOwn (h : Rel t b A o S env pe) (a : AdmS t s b A S) {po : P} {ob : O} {n : Nat} (fresh : ∀ i, o i ≠ some n) (bn : b ≤ n) (e : S[n]? = some ob) (q : OwR t S (fun m => Av A o m ∧ m ≠ n) po ob)
    (old : ∀ (j : Nat) (p : P), pe[j]? = some (some p) → ∀ d, env[j]? = some (some d) → RdT t S A (Av A o) p d → RdT t S A (fun m => Av A o m ∧ m ≠ n) p d) (i : Nat) : Rel t b A (setO o i (some n)) S (env.set i (some (.ref n))) (pe.set i (some po)) := by
  have hav : ∀ m, (Av A o m ∧ m ≠ n) → Av A (setO o i (some n)) m := fun m hm => ⟨hm.1.1, fun j z => by
    by_cases c : j = i
    · subst c; rw [setO_self] at z; cases z; exact hm.2 rfl
    · rw [setO_ne c] at z; exact hm.1.2 j z⟩
  refine ⟨by simp [h.len], fun j x ex => ?_, fun j k m e1 e2 => ?_, fun j m em => ?_⟩
  · rcases get_setS ex with ⟨rfl, ex, hl⟩ | ⟨ne, ex⟩
    · cases ex
      exact ⟨.ref n, List.getElem?_set_self (by rw [h.len]; exact hl), OwR.t (OwR.imp (fun m o' hm e' => ⟨hav m hm, e'⟩) q) (a.new n bn) e, fun _ => ⟨n, rfl, setO_self⟩⟩
    · obtain ⟨d', h1, h2, h3⟩ := h.slot j x ex
      have h2' := old j x ex d' h1 h2
      refine ⟨d', by rw [List.getElem?_set_ne (fun z => ne z.symm)]; exact h1, ?_, fun z => ?_⟩
      · exact h2'.map' (fun _ n ob _ k2 k3 => ⟨k2, k3⟩) (fun m o' hm e' => ⟨hav m hm, e'⟩)
      · obtain ⟨n', e1, e2⟩ := h3 z
        exact ⟨n', e1, by rw [setO_ne ne]; exact e2⟩
  · by_cases c1 : j = i
    · by_cases c2 : k = i
      · rw [c1, c2]
      · subst c1; rw [setO_self] at e1; cases e1; rw [setO_ne c2] at e2; exact absurd e2 (fresh k)
    · by_cases c2 : k = i
      · subst c2; rw [setO_self] at e2; cases e2; rw [setO_ne c1] at e1; exact absurd e1 (fresh j)
      · rw [setO_ne c1] at e1; rw [setO_ne c2] at e2; exact h.inj j k m e1 e2
  · by_cases c1 : j = i
    · subst c1; rw [setO_self] at em; cases em; exact ⟨a.new _ bn, bn, lst_lt e⟩
    · rw [setO_ne c1] at em; exact h.own j m em
theorem setO_stp' {i n : Nat} (hn : S.length ≤ n ∨ ∃ j, o j = some n) : Stp t S o S (setO o i (some n)) := ⟨Nat.le_refl _, fun _ _ _ _ => rfl, fun j m e => by
  by_cases h : j = i
  · subst h; rw [setO_self] at e; cases e; exact hn.symm
  · rw [setO_ne h] at e; exact .inl ⟨j, e⟩⟩

/-! the rules -/
theorem vs_next : SimS t s ns sNext vNext := fun b A o S env pe τ a T r => Sim2.ret T r
theorem vs_break : SimS t s ns sBreak vBreak := fun b A o S env pe τ a T r => Sim2.ret T r
theorem vs_cont : SimS t s ns sCont vCont := fun b A o S env pe τ a T r => Sim2.ret T r
theorem vs_seq (h1 : SimS t s ns f g) (h2 : SimS t s ns f2 g2) : SimS t s ns (sSeq f f2) (vSeq g g2) := fun b A o S env pe τ a T r r' pe' τ' e => by
  unfold vSeq at e
  cases hg : g pe τ with
  | none => rw [hg] at e; cases e
  | some q =>
    obtain ⟨r1, pe1, τ1⟩ := q
    obtain ⟨r1', env1, S1, o1, k1, k2, k3, k4⟩ := h1 b A o S env pe τ a T r r1 pe1 τ1 hg
    rw [hg] at e
    unfold sSeq
    rw [k1]
    cases r1 <;> cases r1' <;> first | exact k4.elim | skip
    · obtain ⟨r2', env2, S2, o2, m1, m2, m3⟩ := h2 b A o1 S1 env1 pe1 τ1 (a.fr k2.len) k3 k4 r' pe' τ' e
      exact ⟨r2', env2, S2, o2, m1, k2.trans m2, m3⟩
    all_goals (cases e; exact ⟨_, env1, S1, o1, rfl, k2, k3, k4⟩)
mutual
theorem put_sim (nt : ¬ A t) : ∀ (tg : Tg) (p : P) (d : D) (o : Ow) (env : Ev) (pe pe' : PE), Rel t b A o S env pe → Rd t S (Av A o) p d → putP tg p pe = some pe' → ∃ env' o', tg.put d env = some env' ∧ Rel t b A o' S env' pe' ∧ Stp t S o S o'
  | .nm i, p, d, o, env, pe, pe', r, q, e => by
    unfold putP at e
    split at e
    · cases e
    · cases e
      exact ⟨_, _, rfl, r.set nt q i, setO_stp⟩
  | .tp l, p, d, o, env, pe, pe', r, q, e => by
    cases p <;> first | (simp [putP] at e; done) | skip
    unfold Rd at q
    obtain ⟨ds, rfl, q⟩ := q
    unfold putP at e
    exact puts_sim nt l _ ds o env pe pe' r q e
theorem puts_sim (nt : ¬ A t) : ∀ (tgs : List Tg) (ps : List P) (ds : List D) (o : Ow) (env : Ev) (pe pe' : PE), Rel t b A o S env pe → Rds t S (Av A o) ps ds → putPs tgs ps pe = some pe' → ∃ env' o', Tg.puts tgs ds env = some env' ∧ Rel t b A o' S env' pe' ∧ Stp t S o S o'
  | [], ps, ds, o, env, pe, pe', r, q, e => by
    cases ps with
    | nil =>
      unfold Rds at q
      subst q
      unfold putPs at e
      cases e
      exact ⟨env, o, rfl, r, Stp.refl⟩
    | cons _ _ => simp [putPs] at e
  | tg :: tgs, ps, ds, o, env, pe, pe', r, q, e => by
    cases ps with
    | nil => simp [putPs] at e
    | cons p ps =>
      unfold Rds at q
      obtain ⟨d, ds', rfl, q1, q2⟩ := q
      unfold putPs at e
      split at e
      · rename_i pe1 h1
        obtain ⟨env1, o1, k1, k2, k3⟩ := put_sim nt tg p d o env pe pe1 r q1 h1
        obtain ⟨env2, o2, m1, m2, m3⟩ := puts_sim nt tgs ps ds' o1 env1 pe1 pe' k2 (k3.rds nt q2) e
        exact ⟨env2, o2, by unfold Tg.puts; rw [k1]; exact m1, m2, k3.trans m3⟩
      · cases e
end
theorem vs_asg (tg : Tg) (he : SimE t s ns fe ge) : SimS t s ns (sAsg tg fe) (vAsg tg ge) := fun b A o S env pe τ a T r =>
  Sim2.bind (he A _ S env pe τ (r.adm a) T r.e) fun p d S' τ' f T' q => by
    cases hp : putP tg p pe with
    | none => exact Sim2.none
    | some pe1 =>
      have no : p.isOwn = false := by
        cases p <;> first | rfl | skip
        all_goals (cases tg <;> simp [putP, P.isOwn] at hp)
      obtain ⟨env1, o1, k1, k2, k3⟩ := put_sim a.tape tg p d o env pe pe1 (r.fr a f) (q.rd no) hp
      show Sim2 _ _ _ _ _ _ _ (match tg.put d env with | some env1 => some (Out.nx, env1, S') | none => none) _
      rw [k1]
      exact (Sim2.ret (r := .nx) (r' := .nx) T' k2).stp k3
theorem RdT.bd {n : Nat} {p : P} {d : D} (hn : S.length ≤ n) (h : RdT t S A B p d) : RdT t S A (fun m => B m ∧ m ≠ n) p d := by
  have f : ∀ m ob, B m → S[m]? = some ob → (B m ∧ m ≠ n) ∧ S[m]? = some ob := fun m ob hb e => ⟨⟨hb, by have := lst_lt e; omega⟩, e⟩
  exact h.map' (fun _ n ob _ k2 k3 => ⟨k2, k3⟩) f
theorem vs_asgO (i : Nat) (he : SimF t s ns fe ge) : SimS t s ns (sAsg (.nm i) fe) (vAsgO i ge) := fun b A o S env pe τ a T r r' pe' τ' e => by
  unfold vAsgO at e
  cases hg : ge pe τ with
  | none => rw [hg] at e; cases e
  | some q =>
    obtain ⟨r1, τ1⟩ := q
    obtain ⟨r1', S1, e1, f, T1, q1⟩ := he A _ S env pe τ (r.adm a) T r.e r1 τ1 hg
    rw [hg] at e
    cases r1 with
    | ex z =>
      cases e
      cases r1' with
      | ok _ => exact q1.elim
      | ex z' => exact ⟨.ex z', env, S1, o, by unfold sAsg; rw [e1]; rfl, f.stp o, T1, RdX.mono (fun n a => a.1) q1⟩
    | ok p =>
      cases r1' with
      | ex _ => exact q1.elim
      | ok d =>
        obtain ⟨l, n, ds, rfl, rfl, hn, e0, q⟩ := q1
        cases e
        have r2 := r.fr a f
        have fresh : ∀ j, o j ≠ some n := fun j z => by have := (r.own j n z).2.2; omega
        have adm := r.adm a
        refine ⟨.nx, _, S1, _, by unfold sAsg; rw [e1]; rfl, ⟨f.len, fun m x y z => f.old m x y, fun j m em => ?_⟩, T1, r2.setOwn (a.fr f.len) (po := .own l) (ob := .lst ds) fresh (Nat.le_trans a.bl hn) e0 q (fun j p hj d hd _ => ?_) i⟩
        · by_cases h : j = i
          · subst h; rw [setO_self] at em; cases em; exact .inr hn
          · rw [setO_ne h] at em; exact .inl ⟨j, em⟩
        · obtain ⟨d', h1, h2, _⟩ := r.slot j p hj
          rw [hd] at h1
          cases h1
          exact (h2.bd hn).map' (fun _ n ob _ k2 k3 => ⟨k2, f.get (fun z => a.tape (z ▸ k2)) k3⟩) (fun n ob k2 k3 => ⟨k2, f.get (fun z => adm.nt (z ▸ k2.1)) k3⟩)
theorem Rel.thaw (h : Rel t b A o S env pe) (nt : ¬ A t) (i : Nat) : ∃ o', Rel t b A o' S env (thawAt i pe) ∧ Stp t S o S o' := by
  unfold thawAt
  split
  · rename_i p e
    split
    · rename_i ow
      obtain ⟨d, h1, h2, h3⟩ := h.slot i _ e
      obtain ⟨n, rfl, e2⟩ := h3 ow
      have st : Stp t S o S (setO o i none) := setO_stp
      have h2' : RdT t S (Av A (setO o i none)) (Av A (setO o i none)) p (.ref n) := by
        refine h2.map' (fun _ m ob k1 k2 k3 => ⟨⟨k2, fun j z => ?_⟩, k3⟩) (st.imp nt)
        cases k1
        by_cases c : j = i
        · subst c; rw [setO_self] at z; cases z
        · rw [setO_ne c] at z; exact c (h.inj j i n z e2)
      have q : Rd t S (Av A (setO o i none)) p.thaw (.ref n) := h2'.thaw fun _ z => z
      have no : p.thaw.isOwn = false := by cases p <;> first | rfl | cases ow
      refine ⟨setO o i none, ⟨by simp [h.len], fun j x ex => ?_, fun j k m e1 e3 => ?_, fun j m em => ?_⟩, st⟩
      · rcases get_setS ex with ⟨rfl, ex, hl⟩ | ⟨ne, ex⟩
        · cases ex
          exact ⟨_, h1, .of q, fun z => by rw [no] at z; cases z⟩
        · obtain ⟨d', h1, h2, h3⟩ := h.slot j x ex
          refine ⟨d', h1, h2.map' (fun _ n ob _ k2 k3 => ⟨k2, k3⟩) (st.imp nt), fun z => ?_⟩
          obtain ⟨n, e1, e2⟩ := h3 z
          exact ⟨n, e1, by rw [setO_ne ne]; exact e2⟩
      · by_cases c1 : j = i
        · subst c1; rw [setO_self] at e1; cases e1
        · by_cases c2 : k = i
          · subst c2; rw [setO_self] at e3; cases e3
          · rw [setO_ne c1] at e1; rw [setO_ne c2] at e3; exact h.inj j k m e1 e3
      · by_cases c1 : j = i
        · subst c1; rw [setO_self] at em; cases em
        · rw [setO_ne c1] at em; exact h.own j m em
    · exact ⟨o, h, Stp.refl⟩
  · exact ⟨o, h, Stp.refl⟩
theorem vs_thaw (i : Nat) (h : SimS t s ns f g) : SimS t s ns f (vThaw i g) := fun b A o S env pe τ a T r => by
  obtain ⟨o', r', st⟩ := r.thaw a.tape i
  exact (h b A o' S env _ τ a T r').stp st
theorem vs_expr (he : SimE t s ns fe ge) : SimS t s ns (sExpr fe) (vExpr ge) := fun b A o S env pe τ a T r =>
  Sim2.bind (he A _ S env pe τ (r.adm a) T r.e) fun p d S' τ' f T' q => Sim2.ret (r := .nx) (r' := .nx) T' (r.fr a f)
theorem vs_ret (he : SimE t s ns fe ge) : SimS t s ns (sRet fe) (vRet ge) := fun b A o S env pe τ a T r =>
  Sim2.bind (he A _ S env pe τ (r.adm a) T r.e) fun p d S' τ' f T' q => Sim2.ret (r := .rt p.thaw) (r' := .rt d) T' (q.thaw fun n z => z.1)
theorem vs_retN : SimS t s ns sRetN vRetN := fun b A o S env pe τ a T r => Sim2.ret (r := .rt .non) (r' := .rt .non) T (by show Rd t S A .non .non; unfold Rd; rfl)
theorem vs_if {fc : Ev → Sto → Ans Bool} {gc : PE → Tau → AP Bool} (hc : SimT t s ns fc gc) (h1 : SimS t s ns f g) (h2 : SimS t s ns f2 g2) : SimS t s ns (sIf fc f f2) (vIfS gc g g2) := fun b A o S env pe τ a T r =>
  Sim2.bind (hc A _ S env pe τ (r.adm a) T r.e) fun p d S' τ' f T' q => by
    subst q
    cases p with
    | true => exact h1 b A o S' env pe τ' (a.fr f.len) T' (r.fr a f)
    | false => exact h2 b A o S' env pe τ' (a.fr f.len) T' (r.fr a f)
theorem vs_while (n : Nat) {fc : Ev → Sto → Ans Bool} {gc : PE → Tau → AP Bool} (hc : SimT t s ns fc gc) (hb : SimS t s ns f g) : SimS t s ns (sWhile n fc f) (whileV gc g n) := by
  unfold sWhile
  induction n with
  | zero => exact fun b A o S env pe τ a T r => Sim2.none
  | succ n ih =>
    intro b A o S env pe τ a T r
    refine Sim2.bind (hc A _ S env pe τ (r.adm a) T r.e) fun p d S' τ' f1 T' q => ?_
    subst q
    cases p with
    | false => exact Sim2.ret (r := .nx) (r' := .nx) T' (r.fr a f1)
    | true =>
      rw [if_pos rfl, if_pos rfl]
      intro r' pe' τ2 e
      cases hg : g pe τ' with
      | none => rw [hg] at e; cases e
      | some q =>
        obtain ⟨r1, pe1, τ1⟩ := q
        obtain ⟨r1', env1, S1, o1, k1, k2, k3, k4⟩ := hb b A o S' env pe τ' (a.fr f1.len) T' (r.fr a f1) r1 pe1 τ1 hg
        rw [hg] at e
        rw [k1]
        cases r1 <;> cases r1' <;> first | exact k4.elim | skip
        · obtain ⟨r2', env2, S2, o2, m1, m2, m3⟩ := ih b A o1 S1 env1 pe1 τ1 ((a.fr f1.len).fr k2.len) k3 k4 r' pe' τ2 e
          exact ⟨r2', env2, S2, o2, m1, k2.trans m2, m3⟩
        · cases e; exact ⟨_, env1, S1, o1, rfl, k2, k3, k4⟩
        · cases e; exact ⟨_, env1, S1, o1, rfl, k2, k3, k4⟩
        · obtain ⟨r2', env2, S2, o2, m1, m2, m3⟩ := ih b A o1 S1 env1 pe1 τ1 ((a.fr f1.len).fr k2.len) k3 k4 r' pe' τ2 e
          exact ⟨r2', env2, S2, o2, m1, k2.trans m2, m3⟩
        · cases e; exact ⟨_, env1, S1, o1, rfl, k2, k3, k4⟩
end
/-- what is walked; okS: as long as what may be met stays -/
def ItW (A B : Nat → Prop) (t : Nat) (S : Sto) (l : List P) (w : Wk) : Prop := Rds t S B l w.items ∧ ∀ S', (∀ n, n < S.length → A n → S'[n]? = S[n]?) → w.ok S'
/-- the same, while the own lists may change -/
def ItS (A B : Nat → Prop) (t : Nat) (S : Sto) (l : List P) (w : Wk) : Prop := Rds t S B l w.items ∧ ∀ S', (∀ n, n < S.length → B n → S'[n]? = S[n]?) → w.ok S'
section
variable (t s : Nat) (ns : List Int)
abbrev SimIW (f : Ev → Sto → Ans Wk) (g : PE → Tau → AP (List P)) : Prop := SimG t s ns (fun A B S l w => ItW A B t S l w) f g
abbrev SimIS (f : Ev → Sto → Ans Wk) (g : PE → Tau → AP (List P)) : Prop := SimG t s ns (fun A B S l w => ItS A B t S l w) f g
end
section
variable {t s : Nat} {ns : List Int} {b : Nat} {A B : Nat → Prop} {o o' : Ow} {S S' : Sto} {env env' : Ev} {pe pe' : PE} {τ τ' : Tau} {f f2 : Ev → Sto → AnsS} {g g2 : PE → Tau → AnsV} {fe fi : Ev → Sto → Ans D} {ge gi : PE → Tau → AP P}
theorem Stp.av (h : Stp t S o S' o') (nt : ¬ A t) : ∀ n, n < S.length → Av A o n → S'[n]? = S[n]? := fun n lt a => h.old n lt (fun z => nt (z ▸ a.1)) a.2
theorem for_sim {ok : Sto → Prop} (tg : Tg) (hb : SimS t s ns f g) (S0 : Sto) (o0 : Ow) (hok : ∀ S', (∀ n, n < S0.length → Av A o0 n → S'[n]? = S0[n]?) → ok S') : ∀ (l : List P) (ds : List D) (o : Ow) (S : Sto) (env : Ev) (pe : PE) (τ : Tau), Rds t S0 (Av A o0) l ds → Stp t S0 o0 S o → AdmS t s b A S → TpOk t s ns S τ → Rel t b A o S env pe → Sim2 t s ns b A o S (forD ok tg f ds env S) (forV tg g l pe τ)
  | [], ds, o, S, env, pe, τ, q, st, a, T, r => by
    unfold Rds at q
    subst q
    unfold forD forV
    rw [if_pos (hok S (st.av a.tape))]
    exact Sim2.ret (r := .nx) (r' := .nx) T r
  | p :: ps, ds, o, S, env, pe, τ, q, st, a, T, r => by
    unfold Rds at q
    obtain ⟨d, ds', rfl, q1, q2⟩ := q
    unfold forD forV
    rw [if_pos (hok S (st.av a.tape))]
    cases hp : putP tg p pe with
    | none => exact Sim2.none
    | some pe1 =>
      obtain ⟨env1, o1, k1, k2, k3⟩ := put_sim a.tape tg p d o env pe pe1 r (st.rd a.tape q1) hp
      rw [k1]
      simp only
      intro r' pe' τ2 e
      cases hg : g pe1 τ with
      | none => rw [hg] at e; cases e
      | some q =>
        obtain ⟨r1, pe2, τ1⟩ := q
        obtain ⟨r1', env2, S2, o2, j1, j2, j3, j4⟩ := hb b A o1 S env1 pe1 τ a T k2 r1 pe2 τ1 hg
        rw [hg] at e
        rw [j1]
        have st2 := k3.trans j2
        cases r1 <;> cases r1' <;> first | exact j4.elim | skip
        · obtain ⟨r2', env3, S3, o3, m1, m2, m3⟩ := for_sim tg hb S0 o0 hok ps ds' o2 S2 env2 pe2 τ1 q2 (st.trans st2) (a.fr j2.len) j3 j4 r' pe' τ2 e
          exact ⟨r2', env3, S3, o3, m1, st2.trans m2, m3⟩
        · cases e; exact ⟨_, env2, S2, o2, rfl, st2, j3, j4⟩
        · cases e; exact ⟨.nx, env2, S2, o2, rfl, st2, j3, j4⟩
        · obtain ⟨r2', env3, S3, o3, m1, m2, m3⟩ := for_sim tg hb S0 o0 hok ps ds' o2 S2 env2 pe2 τ1 q2 (st.trans st2) (a.fr j2.len) j3 j4 r' pe' τ2 e
          exact ⟨r2', env3, S3, o3, m1, st2.trans m2, m3⟩
        · cases e; exact ⟨_, env2, S2, o2, rfl, st2, j3, j4⟩
theorem vs_for {fw : Ev → Sto → Ans Wk} {gw : PE → Tau → AP (List P)} (tg : Tg) (hi : SimIS t s ns fw gw) (hb : SimS t s ns f g) : SimS t s ns (sFor fw tg f) (vFor gw tg g) := fun b A o S env pe τ a T r =>
  Sim2.bind (hi A _ S env pe τ (r.adm a) T r.e) fun l w S' τ' f1 T' q => for_sim tg hb S' o q.2 l w.items o S' env pe τ' q.1 Stp.refl (a.fr f1.len) T' (r.fr a f1)

/-! own lists are written -/
theorem Rel.write (h : Rel t b A o S env pe) (a : AdmS t s b A S) {i n : Nat} {p p' : P} {ob ob' : O} (e : pe[i]? = some (some p)) (ow : p.isOwn = true) (e2 : o i = some n) (e3 : S[n]? = some ob) (q : OwR t S (Av A o) p' ob') :
    Rel t b A o (S.set n ob') env (pe.set i (some p')) ∧ Stp t S o (S.set n ob') o := by
  have lt := lst_lt e3
  have st : Stp t S o (S.set n ob') o := ⟨by simp, fun m x y z => List.getElem?_set_ne (fun c => z i (by rw [← c]; exact e2)), fun j m z => .inl ⟨j, z⟩⟩
  refine ⟨⟨by simp [h.len], fun j x ex => ?_, h.inj, fun j m em => by rw [List.length_set]; exact h.own j m em⟩, st⟩
  rcases get_setS ex with ⟨rfl, ex, hl⟩ | ⟨ne, ex⟩
  · cases ex
    obtain ⟨d, h1, h2, h3⟩ := h.slot j _ e
    obtain ⟨n', k1, k2⟩ := h3 ow
    rw [e2] at k2
    cases k2
    exact ⟨d, h1, by rw [k1]; exact OwR.t (OwR.imp (st.imp a.tape) q) (h.own j n e2).1 (List.getElem?_set_self lt), fun _ => ⟨n, k1, e2⟩⟩
  · obtain ⟨d, h1, h2, h3⟩ := h.slot j x ex
    refine ⟨d, h1, h2.map' (fun ow' m ob k1 k2 k3 => ?_) (st.imp a.tape), h3⟩
    obtain ⟨m', j1, j2⟩ := h3 ow'
    rw [k1] at j1
    cases j1
    have nm : n ≠ m := fun z => ne (h.inj j i m j2 (by rw [← z]; exact e2))
    exact ⟨k2, by rw [List.getElem?_set_ne nm]; exact k3⟩
theorem TpOk.write {n : Nat} {ob : O} (T : TpOk t s ns S τ) (h1 : n ≠ t) (h2 : n ≠ s) : TpOk t s ns (S.set n ob) τ := ⟨by rw [List.getElem?_set_ne h1]; exact T.tape, by rw [List.getElem?_set_ne h2]; exact T.src, T.pos, T.ne⟩
theorem Rel.ownOb (h : Rel t b A o S env pe) (a : AdmS t s b A S) {i : Nat} {p : P} (e : pe[i]? = some (some p)) (ow : p.isOwn = true) : ∃ n ob, env[i]? = some (some (.ref n)) ∧ o i = some n ∧ S[n]? = some ob ∧ OwR t S (Av A o) p ob ∧ n ≠ t ∧ n ≠ s := by
  obtain ⟨d, h1, h2, h3⟩ := h.slot i _ e
  obtain ⟨n, rfl, e2⟩ := h3 ow
  obtain ⟨n', ob, k1, k2, k3, k4⟩ := h2.ow ow
  cases k1
  exact ⟨n, ob, h1, e2, k3, k4, fun z => a.tape (z ▸ k2), by have := (h.own i n e2).2.1; have := a.src; omega⟩
theorem Rel.ownAt (h : Rel t b A o S env pe) (a : AdmS t s b A S) {i : Nat} {l : List P} (e : pe[i]? = some (some (.own l))) : ∃ n ds, env[i]? = some (some (.ref n)) ∧ o i = some n ∧ S[n]? = some (.lst ds) ∧ Rds t S (Av A o) l ds ∧ n ≠ t ∧ n ≠ s := by
  obtain ⟨n, ob, h1, e2, k3, k4, h5⟩ := h.ownOb a e rfl
  cases ob <;> first | exact k4.elim | exact ⟨n, _, h1, e2, k3, k4, h5⟩
theorem Rel.owndAt (h : Rel t b A o S env pe) (a : AdmS t s b A S) {i : Nat} {l : List P} (e : pe[i]? = some (some (.ownd l))) : ∃ n es, env[i]? = some (some (.ref n)) ∧ o i = some n ∧ S[n]? = some (.dct es) ∧ Rds t S (Av A o) l (es.map prD) ∧ n ≠ t ∧ n ≠ s := by
  obtain ⟨n, ob, h1, e2, k3, k4, h5⟩ := h.ownOb a e rfl
  cases ob <;> first | exact k4.elim | exact ⟨n, _, h1, e2, k3, k4, h5⟩
theorem vs_append (i : Nat) (he : SimE t s ns fe ge) : SimS t s ns (sExpr (dM "list" mAppend (dVar i) (dCons fe dNil))) (vAppend i ge) := fun b A o S env pe τ a T r => by
  unfold vAppend
  cases h : pe[i]? with
  | none => exact Sim2.none
  | some q => cases q with
    | none => exact Sim2.none
    | some p => cases p with
      | own l =>
        obtain ⟨n, ds, e1, e2, e3, e4, e5, e6⟩ := r.ownAt a h
        intro r' pe' τ' e
        simp only at e
        cases hg : ge pe τ with
        | none => rw [hg] at e; cases e
        | some q =>
          obtain ⟨r1, τ1⟩ := q
          obtain ⟨r1', S1, k1, f1, T1, q1⟩ := he A _ S env pe τ (r.adm a) T r.e r1 τ1 hg
          rw [hg] at e
          have ty : tyM "list" (.ref n) S = true := by rw [E_tyM_list, seq_lst e3]; rfl
          cases r1 with
          | ex z =>
            cases e
            cases r1' with
            | ok _ => exact q1.elim
            | ex z' => exact ⟨.ex z', env, S1, o, by simp [e1, ty, k1], f1.stp o, T1, RdX.mono (fun n a => a.1) q1⟩
          | ok p =>
            cases r1' with
            | ex _ => exact q1.elim
            | ok d =>
              simp only [bindSV] at e
              split at e
              · cases e
              · rename_i no
                have no : p.isOwn = false := by simpa using no
                split at e
                · rename_i hz
                  cases e
                  have r2 := r.fr a f1
                  have e3' := f1.get e5 e3
                  have e4' := f1.rds (r.adm a).nt e4
                  obtain ⟨r3, st⟩ := r2.write (a.fr f1.len) h rfl e2 e3' (p' := .own (l ++ [p])) (ob' := .lst (ds ++ [d])) (e4'.app (Rds.cons (RdT.rd q1 no) Rds.nil))
                  refine ⟨.nx, env, _, o, ?_, (f1.stp o).trans st, T1.write e5 e6, r3⟩
                  simp [e1, ty, k1, e3', ← e4.len, hz]
                · cases e
      | _ => exact Sim2.none
theorem vs_popS (i : Nat) : SimS t s ns (sExpr (dM "list" mPop (dVar i) dNil)) (vPopS i) := fun b A o S env pe τ a T r => by
  unfold vPopS
  cases h : pe[i]? with
  | none => exact Sim2.none
  | some q => cases q with
    | none => exact Sim2.none
    | some p => cases p with
      | own l =>
        obtain ⟨n, ds, e1, e2, e3, e4, e5, e6⟩ := r.ownAt a h
        have ty : tyM "list" (.ref n) S = true := by rw [E_tyM_list, seq_lst e3]; rfl
        intro r' pe' τ' e
        simp only at e
        split at e
        · cases e
        · rename_i hl
          cases e
          have hd : ds.length - 1 < ds.length := by rw [← e4.len]; omega
          have q : Rds t S (Av A o) l.dropLast ds.dropLast := by
            rw [List.dropLast_eq_take, List.dropLast_eq_take, e4.len]
            exact e4.take _
          obtain ⟨r3, st⟩ := r.write a h rfl e2 e3 (p' := .own l.dropLast) (ob' := .lst ds.dropLast) q
          refine ⟨.nx, env, _, o, ?_, st, T.write e5 e6, r3⟩
          simp [e1, ty, e3, List.getElem?_eq_getElem hd]
      | _ => exact Sim2.none
theorem vs_setI (i : Nat) (he : SimE t s ns fe ge) (hi : SimE t s ns fi gi) : SimS t s ns (sSub gSetL fe (dVar i) fi) (vSetI i ge gi) := fun b A o S env pe τ a T r => by
  unfold vSetI sSub
  refine Sim2.bind (he A _ S env pe τ (r.adm a) T r.e) fun p d S1 τ1 f1 T1 q1 => ?_
  have r1 := r.fr a f1
  have a1 := a.fr f1.len
  cases h : pe[i]? with
  | none => exact Sim2.none
  | some q => cases q with
    | none => exact Sim2.none
    | some x => cases x with
      | own l =>
        obtain ⟨n, ds, e1, e2, e3, e4, e5, e6⟩ := r1.ownAt a1 h
        have hv : dVar i env S1 = some (.ok (.ref n), S1) := by simp [e1]
        rw [hv, bindS_okE]
        refine Sim2.bind (hi A _ S1 env pe τ1 (r1.adm a1) T1 r1.e) fun k kd S2 τ2 f2 T2 q2 => ?_
        have r2 := r1.fr a1 f2
        have a2 := a1.fr f2.len
        by_cases no' : p.isOwn = true
        · rw [if_pos no']; exact Sim2.none
        · rw [if_neg no']
          have no : p.isOwn = false := by simpa using no'
          cases k with
          | int k =>
            simp only
            unfold RdT Rd at q2
            subst q2
            have e3' := f2.get e5 e3
            have e4' := f2.rds (r1.adm a1).nt e4
            have q1' := f2.rdt (r1.adm a1) q1
            have hlen := e4.len
            cases hj : ixN l.length k with
            | none => exact Sim2.none
            | some j =>
              obtain ⟨r3, st⟩ := r2.write a2 h rfl e2 e3' (p' := .own (l.set j p)) (ob' := .lst (ds.set j d)) (Rds.set (q1'.rd no) j e4')
              rw [E_gSetL, e3']
              rw [hlen] at hj
              simp only [hj]
              exact (Sim2.ret (r := .nx) (r' := .nx) (T2.write e5 e6) r3).stp st
          | _ => exact Sim2.none
      | _ => exact Sim2.none
/-- an operation op=, on what is no list -/
theorem vs_aug (i : Nat) {gg : D → D → Sto → Option (D × Sto)} {h : P → P → Option P} (op : OpV t gg h) (he : SimE t s ns fe ge) : SimS t s ns (sAug i gg fe) (vAug i h ge) := fun b A o S env pe τ a T r => by
  unfold vAug sAug
  cases hx : pe[i]? with
  | none => exact Sim2.none
  | some q => cases q with
    | none => exact Sim2.none
    | some x =>
      obtain ⟨dx, h1, h2, h3⟩ := r.slot i x hx
      rw [h1]
      refine Sim2.bind (he A _ S env pe τ (r.adm a) T r.e) fun y d S1 τ1 f1 T1 q1 => ?_
      have r1 := r.fr a f1
      have a1 := a.fr f1.len
      cases hh : h x y with
      | none => exact Sim2.none
      | some z =>
        obtain ⟨d', T', e1, e2⟩ := op A _ S1 x y z dx d (r1.adm a1) (f1.rdt (r.adm a) h2) q1 hh
        rw [e1]
        simp only
        split
        · exact Sim2.none
        · have f2 : Fr t S1 (S1 ++ T') := Fr.app _ _
          exact ((Sim2.ret (r := .nx) (r' := .nx) (T1.app T') ((r1.fr a1 f2).set a.tape e2 i)).stp setO_stp).stp (f2.stp o)

/-! ### a def's body -/
def runV (n m : Nat) (fb : PE → Tau → AnsV) : MirV := fun ps τ => if ps.length = n then match fb (ps.map some ++ List.replicate (m - n) none) τ with
    | some (.nx, _, τ') => some (.ok .non, τ')
    | some (.rt p, _, τ') => some (.ok p, τ')
    | some (.ex e, _, τ') => some (.ex e, τ')
    | _ => none
  else none
theorem Rds.noOwn : ∀ {ps : List P} {ds : List D}, Rds t S A ps ds → ∀ p ∈ ps, p.isOwn = false
  | [], _, _, _, h => by cases h
  | p :: ps, _, q, x, h => by
    unfold Rds at q
    obtain ⟨d, r, _, q1, q2⟩ := q
    rcases List.mem_cons.mp h with rfl | h
    · cases x <;> first | rfl | (unfold Rd at q1; exact q1.elim)
    · exact Rds.noOwn q2 x h
theorem vok_body {n m : Nat} (h : SimS t s ns f g) : VOk t s ns (runB n m f) (runV n m g) := fun A S ds ps τ a q T r τ' e => by
  unfold runV at e
  have hl := q.len
  split at e
  · rename_i hn
    have rel : Rel t S.length A (fun _ => none) S (ds.map some ++ List.replicate (m - n) none) (ps.map some ++ List.replicate (m - n) none) := by
      refine ⟨by simp [hl], fun i p ei => ?_, fun _ _ _ z => by (cases z), fun _ _ z => by (cases z)⟩
      by_cases hi : i < ps.length
      · rw [List.getElem?_append_left (by simpa using hi), List.getElem?_map] at ei
        cases hp : ps[i]? with
        | none => rw [hp] at ei; cases ei
        | some p' =>
          rw [hp] at ei
          cases ei
          obtain ⟨d, e1, e2⟩ := q.get hp
          refine ⟨d, ?_, RdT.of (Rd.imp (fun n o x e => ⟨⟨x, fun _ z => by cases z⟩, e⟩) _ _ e2), fun z => by rw [q.noOwn p (List.mem_of_getElem? hp)] at z; cases z⟩
          rw [List.getElem?_append_left (by rw [List.length_map, ← hl]; exact hi), List.getElem?_map, e1]
          rfl
      · rw [List.getElem?_append_right (by simpa using hi), List.getElem?_replicate] at ei
        split at ei <;> cases ei
    have ad : AdmS t s S.length A S := ⟨Nat.le_refl _, a.new, a.tape, lst_lt T.src⟩
    cases hg : g (ps.map some ++ List.replicate (m - n) none) τ with
    | none => rw [hg] at e; cases e
    | some z =>
      obtain ⟨r1, pe1, τ1⟩ := z
      obtain ⟨r1', env1, S1, o1, k1, k2, k3, k4⟩ := h S.length A _ S _ _ τ ad T rel r1 pe1 τ1 hg
      rw [hg] at e
      have fr : Fr t S S1 := ⟨k2.len, fun n lt ne => k2.old n lt ne fun i z => by cases z⟩
      unfold runB
      rw [if_pos (by rw [← hl]; exact hn), k1]
      cases r1 <;> cases r1' <;> first | exact k4.elim | skip
      · cases e; exact ⟨.ok .non, S1, rfl, fr, k3, by show Rd t S1 A .non .non; unfold Rd; rfl⟩
      · cases e; exact ⟨.ok _, S1, rfl, fr, k3, k4⟩
      · cases e
      · cases e
      · cases e; exact ⟨.ex _, S1, rfl, fr, k3, k4⟩
  · cases e
theorem vok_none : VOk t s ns (fun _ _ => none) (fun _ _ => none) := fun A S ds ps τ a q T => Sim1.none
end
end VL
namespace VL
open PySem PySem.Spec PyProof.Rows L2 RT RZ DL

/-! ### the operations on values -/
section
variable {t : Nat} {S : Sto} {A B : Nat → Prop} {p q : P} {d e : D}
theorem rInt {i : Int} (h : RdT t S A B (.int i) d) : d = .int i := by unfold RdT Rd at h; exact h
theorem rStr {i : Str} (h : RdT t S A B (.str i) d) : d = .str i := by unfold RdT Rd at h; exact h
theorem rBl {i : Bool} (h : RdT t S A B (.bl i) d) : d = .bl i := by unfold RdT Rd at h; exact h
theorem rNon (h : RdT t S A B .non d) : d = .non := by unfold RdT Rd at h; exact h
theorem rTape (h : RdT t S A B .tape d) : d = .ref t := by unfold RdT Rd at h; exact h
theorem rTup {l : List P} (h : RdT t S A B (.tup l) d) : ∃ ds, d = .tup ds ∧ Rds t S B l ds := by unfold RdT Rd at h; exact h
theorem rLst {l : List P} (h : RdT t S A B (.lst l) d) : ∃ n ds, d = .ref n ∧ S[n]? = some (.lst ds) ∧ Rds t S B l ds := by
  unfold RdT Rd at h
  obtain ⟨n, ds, e, _, q⟩ := h
  exact ⟨n, ds, e, q⟩
theorem rOwn {l : List P} (h : RdT t S A B (.own l) d) : ∃ n ds, d = .ref n ∧ S[n]? = some (.lst ds) ∧ Rds t S B l ds := by
  obtain ⟨n, ds, e, _, q⟩ := h
  exact ⟨n, ds, e, q⟩
theorem rDct {l : List P} (h : RdT t S A B (.dct l) d) : ∃ n es, d = .ref n ∧ S[n]? = some (.dct es) ∧ Rds t S B l (es.map prD) := by
  unfold RdT Rd at h
  obtain ⟨n, ds, e, _, q⟩ := h
  exact ⟨n, ds, e, q⟩
theorem rOwnd {l : List P} (h : RdT t S A B (.ownd l) d) : ∃ n es, d = .ref n ∧ S[n]? = some (.dct es) ∧ Rds t S B l (es.map prD) := by
  obtain ⟨n, ds, e, _, q⟩ := h
  exact ⟨n, ds, e, q⟩
theorem rRot {l : List P} (h : RdT t S A B (.rot l) d) : ∃ n ds, d = .ref n ∧ S[n]? = some (.rot ds) ∧ Rds t S B l ds := by
  unfold RdT Rd at h
  obtain ⟨n, ds, e, _, q⟩ := h
  exact ⟨n, ds, e, q⟩
theorem mInt' {i : Int} : Rd t S B (.int i) (.int i) := by unfold Rd; rfl
theorem mStr' {i : Str} : Rd t S B (.str i) (.str i) := by unfold Rd; rfl
theorem mBl' {i : Bool} : Rd t S B (.bl i) (.bl i) := by unfold Rd; rfl
theorem mNon' : Rd t S B .non .non := by unfold Rd; rfl
theorem mTup' {l : List P} {ds : List D} (h : Rds t S B l ds) : Rd t S B (.tup l) (.tup ds) := by unfold Rd; exact ⟨ds, rfl, h⟩
/-- the items of what is a list -/
def lstOf : P → Option (List P)
  | .lst l => some l
  | .own l => some l
  | _ => none
theorem rList {l : List P} (e : lstOf p = some l) (h : RdT t S A B p d) : ∃ n ds, d = .ref n ∧ S[n]? = some (.lst ds) ∧ Rds t S B l ds := by
  cases p <;> first | cases e | skip
  · exact rLst h
  · exact rOwn h
/-- a new list behind the store -/
theorem Rds.lst {l : List P} {ds : List D} (a : Adm t A B S) (h : Rds t S B l ds) : Rd t (S ++ [.lst ds]) B (.lst l) (.ref S.length) := by
  unfold Rd
  exact ⟨S.length, ds, rfl, a.new _ (Nat.le_refl _), get_last _ _, Rds.imp (fun n o b e => ⟨b, get_old e⟩) _ _ h⟩
theorem Rd.nil {x : D} (h : Rd t S B p x) : Rd t (S ++ []) B p x := by rw [List.append_nil]; exact h
end
/-- a list operation as an operation -/
theorem OpVF.v {t : Nat} {g : D → D → Sto → Option (D × Sto)} {h : P → P → Option P} (o : OpVF t g h) (lo : ∀ a, Lsty (h a)) : OpV t g h := fun A B S p q r a b ad ra rb e => by
  obtain ⟨l, rfl⟩ := lo p q r e
  obtain ⟨ds, e1, e2⟩ := o A B S p q l a b ad ra rb e
  exact ⟨_, _, e1, e2.lst ad⟩
theorem CallVF.v {t : Nat} {g : List D → Sto → Option (D × Sto)} {h : List P → Option P} (o : CallVF t g h) (lo : Lsty h) : CallV t g h := fun A B S ps r ds ad ra e => by
  obtain ⟨l, rfl⟩ := lo ps r e
  obtain ⟨es, e1, e2⟩ := o A B S ps l ds ad ra e
  exact ⟨_, _, e1, e2.lst ad⟩
/-- nothing new is made -/
theorem same {S : Sto} {d : D} {x : Option (D × Sto)} (h : x = some (d, S)) : x = some (d, S ++ []) := by rw [List.append_nil]; exact h

/-- + of lists -/
def pCat (p q : P) : Option P := match lstOf p, lstOf q with
  | some xs, some ys => if xs.length + ys.length ≤ sizeLine then some (.lst (xs ++ ys)) else none
  | _, _ => none
def pAdd : P → P → Option P
  | .int i, .int j => some (.int (i + j))
  | .str x, .str y => if x.length + y.length ≤ sizeLine then some (.str (x ++ y)) else none
  | .tup xs, .tup ys => if xs.length + ys.length ≤ sizeLine then some (.tup (xs ++ ys)) else none
  | .int i, .bl k => some (.int (i + b2i k))
  | p, q => pCat p q
def pIAdd : P → P → Option P
  | .int i, .int j => some (.int (i + j))
  | .str x, .str y => if x.length + y.length ≤ sizeLine then some (.str (x ++ y)) else none
  | _, _ => none
def pSub : P → P → Option P
  | .int i, .int j => some (.int (i - j))
  | _, _ => none
open Classical in
noncomputable def pMul : P → P → Option P
  | .int i, .int j => if CMul i j ∨ CMulW i j ∨ IntMulOk i j then some (.int (i * j)) else none
  | .str x, .int n => if MulOk x n then some (.str (Txt.mul x n)) else none
  | _, _ => none
def pRep (p q : P) : Option P := match lstOf p, q with
  | some xs, .int k => if -(2 ^ 63) ≤ k ∧ k < 2 ^ 63 ∧ xs.length * k.toNat ≤ sizeLine then some (.lst (List.replicate k.toNat xs).flatten) else none
  | _, _ => none
open Classical in
noncomputable def pFdiv : P → P → Option P
  | .int i, .int j => if CDivW i j then some (.int (i / j)) else none
  | _, _ => none
def pMod : P → P → Option P
  | .int i, .int j => if 0 < j then some (.int (i % j)) else none
  | _, _ => none
open Classical in
noncomputable def pPow : P → P → Option P
  | .int i, .int j => if CPow i j then some (.int (i ^ j.toNat)) else none
  | _, _ => none
mutual
def P.py : P → Option PyData
  | .non => some .none
  | .bl b => some (.bool b)
  | .int i => some (.int i)
  | .str x => some (.str x)
  | .tup l => match P.pys l with
    | some ps => some (.tuple ps)
    | none => none
  | _ => none
def P.pys : List P → Option (List PyData)
  | [] => some []
  | d :: ds => match P.py d, P.pys ds with
    | some p, some ps => some (p :: ps)
    | _, _ => none
end
def pyT : P → Option PyData
  | .lst l => match P.pys l with
    | some ps => some (.list ps)
    | none => none
  | .own l => match P.pys l with
    | some ps => some (.list ps)
    | none => none
  | p => p.py
def deepP (a b : P) : Option Bool := match pyT a, pyT b with
  | some d, some e => if SeqAt.shaped d = true ∧ SeqAt.shaped e = true then some (PyData.eqv d e) else none
  | _, _ => none
def eqP : P → P → Option Bool
  | .int i, .int j => some (decide (i = j))
  | .str x, .str y => some (decide (x = y))
  | .bl x, .bl y => some (decide (x = y))
  | .non, .non => some true
  | .non, .str _ => some false
  | .str _, .non => some false
  | a, b => deepP a b
def pEq (a b : P) : Option P := (eqP a b).map P.bl
def pNe (a b : P) : Option P := (eqP a b).map fun x => P.bl (!x)
def pLt : P → P → Option P
  | .int i, .int j => some (.bl (decide (i < j)))
  | .str x, .str y => some (.bl (decide (x.cps.toList < y.cps.toList)))
  | _, _ => none
def pLe : P → P → Option P
  | .int i, .int j => some (.bl (decide (i ≤ j)))
  | .str x, .str y => some (.bl (!decide (y.cps.toList < x.cps.toList)))
  | _, _ => none
def pGt : P → P → Option P
  | .int i, .int j => some (.bl (decide (j < i)))
  | .str x, .str y => some (.bl (decide (y.cps.toList < x.cps.toList)))
  | _, _ => none
def pGe : P → P → Option P
  | .int i, .int j => some (.bl (decide (j ≤ i)))
  | .str x, .str y => some (.bl (!decide (x.cps.toList < y.cps.toList)))
  | _, _ => none
def isNonP : P → Bool
  | .non => true
  | _ => false
def pIs : P → P → Option P
  | a, .non => some (.bl (isNonP a))
  | _, _ => none
def pIsNot : P → P → Option P
  | a, .non => some (.bl (!isNonP a))
  | _, _ => none
def P.sc : P → Bool
  | .non => true
  | .bl _ => true
  | .int _ => true
  | .str _ => true
  | _ => false
def eqS : P → P → Bool
  | .non, .non => true
  | .bl a, .bl b => a == b
  | .bl a, .int b => (if a then 1 else 0) == b
  | .int a, .bl b => a == (if b then 1 else 0)
  | .int a, .int b => a == b
  | .str a, .str b => a == b
  | _, _ => false
def inS (x : P) (xs : List P) : Bool := xs.any fun y => eqS y x
def inP (x y : P) : Option Bool := match x, y with
  | .str a, .str b => some (!(Builtin.Str.occurrences b a 0 b.length 1).isEmpty)
  | x, y => match items y with
    | some ds => if x.sc = true ∧ ds.all P.sc = true then some (inS x ds) else none
    | none => none
def pIn (a b : P) : Option P := (inP a b).map P.bl
def pNotIn (a b : P) : Option P := (inP a b).map fun x => P.bl (!x)
def pIx (a b : P) : Option P := match a, b with
  | .str z, .int i => if z.length ≤ sizeLine then match atI z.cps.toList i with
      | some c => some (.str ⟨#[c]⟩)
      | none => none
    else none
  | a, .int i => match items a with
    | some ds => atI ds i
    | none => none
  | _, _ => none
def cutP (xs : List P) (lo hi : Option Int) : List P := (xs.drop (HT.sIx xs.length 0 lo)).take (HT.sIx xs.length xs.length hi - HT.sIx xs.length 0 lo)
def pSl (a : P) (lo hi : Option Int) : Option P := match a with
  | .str z => if z.length ≤ sizeLine then some (.str (cutS z lo hi)) else none
  | .tup ds => some (.tup (cutP ds lo hi))
  | .lst ds => some (.lst (cutP ds lo hi))
  | .own ds => some (.lst (cutP ds lo hi))
  | _ => none
def pNeg : P → Option P
  | .int i => some (.int (-i))
  | _ => none
section
variable {t : Nat}
theorem ov_cat : OpVF t gAdd pCat := fun A B S p q l a b ad ra rb e => by
  unfold pCat at e
  split at e
  · rename_i xs ys h1 h2
    split at e
    · rename_i hz
      cases e
      obtain ⟨n, ds, rfl, e1, e2⟩ := rList h1 ra
      obtain ⟨m, es, rfl, e3, e4⟩ := rList h2 rb
      refine ⟨ds ++ es, ?_, e2.app e4⟩
      unfold gAdd
      simp only [e1, e3]
      rw [if_pos (by rw [← e2.len, ← e4.len]; exact hz)]
    · cases e
  · cases e
theorem ls_cat (a : P) : Lsty (pCat a) := fun b r e => by
  unfold pCat at e
  split at e
  · split at e
    · cases e; exact ⟨_, rfl⟩
    · cases e
  · cases e
theorem ov_add : OpV t gAdd pAdd := fun A B S p q r a b ad ra rb e => by
  unfold pAdd at e
  split at e
  · cases e; rw [rInt ra, rInt rb]; exact ⟨_, [], same rfl, mInt'⟩
  · split at e
    · rename_i hz
      cases e; rw [rStr ra, rStr rb]
      exact ⟨_, [], same (by unfold gAdd; exact if_pos hz), mStr'⟩
    · cases e
  · split at e
    · rename_i hz
      cases e
      obtain ⟨ds, rfl, e1⟩ := rTup ra
      obtain ⟨es, rfl, e2⟩ := rTup rb
      exact ⟨_, [], same (by unfold gAdd; exact if_pos (by rw [← e1.len, ← e2.len]; exact hz)), Rd.nil (mTup' (e1.app e2))⟩
    · cases e
  · cases e; rw [rInt ra, rBl rb]; exact ⟨_, [], same rfl, mInt'⟩
  · exact OpVF.v ov_cat ls_cat A B S p q r a b ad ra rb e
theorem ov_iadd : OpV t gIAdd pIAdd := fun A B S p q r a b ad ra rb e => by
  unfold pIAdd at e
  split at e
  · cases e; rw [rInt ra, rInt rb]; exact ⟨_, [], same rfl, mInt'⟩
  · split at e
    · rename_i hz
      cases e; rw [rStr ra, rStr rb]
      exact ⟨_, [], same (by unfold gIAdd; exact if_pos hz), mStr'⟩
    · cases e
  · cases e
theorem ov_sub : OpV t gSub pSub := fun A B S p q r a b ad ra rb e => by
  unfold pSub at e
  split at e
  · cases e; rw [rInt ra, rInt rb]; exact ⟨_, [], same rfl, mInt'⟩
  · cases e
theorem ov_rep : OpVF t gMul pRep := fun A B S p q l a b ad ra rb e => by
  unfold pRep at e
  split at e
  · rename_i xs k h1
    split at e
    · rename_i hz
      cases e
      obtain ⟨n, ds, rfl, e1, e2⟩ := rList h1 ra
      rw [rInt rb]
      have rep : ∀ k : Nat, Rds t S B (List.replicate k xs).flatten (List.replicate k ds).flatten := fun k => by
        induction k with
        | zero => exact Rds.nil
        | succ k ih =>
          rw [List.replicate_succ, List.replicate_succ, List.flatten_cons, List.flatten_cons]
          exact e2.app ih
      refine ⟨_, ?_, rep _⟩
      unfold gMul
      simp only [e1]
      rw [if_pos ⟨hz.1, hz.2.1, by rw [← e2.len]; exact hz.2.2⟩]
    · cases e
  · cases e
theorem ls_rep (a : P) : Lsty (pRep a) := fun b r e => by
  unfold pRep at e
  split at e
  · split at e
    · cases e; exact ⟨_, rfl⟩
    · cases e
  · cases e
theorem ov_mul : OpV t gMul pMul := fun A B S p q r a b ad ra rb e => by
  unfold pMul at e
  split at e
  · split at e
    · rename_i hz
      cases e; rw [rInt ra, rInt rb]; exact ⟨_, [], same (by unfold gMul; exact if_pos hz), mInt'⟩
    · cases e
  · split at e
    · rename_i hz
      cases e; rw [rStr ra, rInt rb]; exact ⟨_, [], same (by unfold gMul; exact if_pos hz), mStr'⟩
    · cases e
  · cases e
theorem ov_fdiv : OpV t gFdiv pFdiv := fun A B S p q r a b ad ra rb e => by
  unfold pFdiv at e
  split at e
  · split at e
    · rename_i hz
      cases e; rw [rInt ra, rInt rb]; exact ⟨_, [], same (by unfold gFdiv; exact if_pos hz), mInt'⟩
    · cases e
  · cases e
theorem ov_mod : OpV t gMod pMod := fun A B S p q r a b ad ra rb e => by
  unfold pMod at e
  split at e
  · split at e
    · rename_i hz
      cases e; rw [rInt ra, rInt rb]; exact ⟨_, [], same (by unfold gMod; exact if_pos hz), mInt'⟩
    · cases e
  · cases e
theorem ov_pow : OpV t gPow pPow := fun A B S p q r a b ad ra rb e => by
  unfold pPow at e
  split at e
  · split at e
    · rename_i hz
      cases e; rw [rInt ra, rInt rb]; exact ⟨_, [], same (by unfold gPow; exact if_pos hz), mInt'⟩
    · cases e
  · cases e
mutual
theorem Rd.py {S : Sto} {B : Nat → Prop} : ∀ (p : P) (d : D) (x : PyData), Rd t S B p d → p.py = some x → d.py = some x
  | .non, _, _, h, e => by unfold Rd at h; subst h; exact e
  | .bl _, _, _, h, e => by unfold Rd at h; subst h; exact e
  | .int _, _, _, h, e => by unfold Rd at h; subst h; exact e
  | .str _, _, _, h, e => by unfold Rd at h; subst h; exact e
  | .lst _, _, _, _, e => by cases e
  | .own _, _, _, _, e => by cases e
  | .dct _, _, _, _, e => by cases e
  | .ownd _, _, _, _, e => by cases e
  | .rot _, _, _, _, e => by cases e
  | .tape, _, _, _, e => by cases e
  | .tup l, d, x, h, e => by
    unfold Rd at h
    obtain ⟨ds, rfl, h⟩ := h
    simp only [P.py] at e
    split at e
    · rename_i ps hp
      cases e
      simp only [D.py, Rds.py l ds ps h hp]
    · cases e
theorem Rds.py {S : Sto} {B : Nat → Prop} : ∀ (p : List P) (d : List D) (x : List PyData), Rds t S B p d → P.pys p = some x → D.pys d = some x
  | [], _, _, h, e => by unfold Rds at h; subst h; exact e
  | p :: ps, ds, x, h, e => by
    unfold Rds at h
    obtain ⟨d, r, rfl, h1, h2⟩ := h
    simp only [P.pys] at e
    split at e
    · rename_i a as ha has
      cases e
      simp only [D.pys, Rd.py p d a h1 ha, Rds.py ps r as h2 has]
    · cases e
end
theorem RdT.pyT {S : Sto} {A B : Nat → Prop} {p : P} {d : D} {x : PyData} (h : RdT t S A B p d) (e : pyT p = some x) : toPy S d = some x := by
  have key : ∀ l n ds, S[n]? = some (.lst ds) → Rds t S B l ds → (match P.pys l with | some ps => some (PyData.list ps) | none => none) = some x → toPy S (.ref n) = some x := fun l n ds e1 e2 e => by
    split at e
    · rename_i ps hp
      cases e
      simp only [toPy, seq_lst e1, Rds.py l ds ps e2 hp]
    · cases e
  cases p with
  | lst l =>
    obtain ⟨n, ds, rfl, e1, e2⟩ := rLst h
    exact key l n ds e1 e2 e
  | own l =>
    obtain ⟨n, ds, rfl, e1, e2⟩ := rOwn h
    exact key l n ds e1 e2 e
  | tape => cases e
  | dct _ => cases e
  | ownd _ => cases e
  | rot _ => cases e
  | non => rw [rNon h]; exact e
  | bl _ => rw [rBl h]; exact e
  | int _ => rw [rInt h]; exact e
  | str _ => rw [rStr h]; exact e
  | tup l =>
    have h2 := Rd.py _ _ _ (RdT.rd h rfl) e
    obtain ⟨ds, rfl, _⟩ := rTup h
    exact h2
theorem deep_sim {S : Sto} {A B : Nat → Prop} {p q : P} {a b : D} {x : Bool} (ra : RdT t S A B p a) (rb : RdT t S A B q b) (h : deepP p q = some x) : deepEq a b S = some x := by
  unfold deepP at h
  split at h
  · rename_i d e h1 h2
    unfold deepEq
    rw [ra.pyT h1, rb.pyT h2]
    exact h
  · cases h
theorem eq_sim {S : Sto} {A B : Nat → Prop} {p q : P} {a b : D} {x : Bool} (ra : RdT t S A B p a) (rb : RdT t S A B q b) (h : eqP p q = some x) : eqB a b S = some x := by
  unfold eqP at h
  split at h
  · rw [rInt ra, rInt rb]; exact h
  · rw [rStr ra, rStr rb]; exact h
  · rw [rBl ra, rBl rb]; exact h
  · rw [rNon ra, rNon rb]; exact h
  · rw [rNon ra, rStr rb]; exact h
  · rw [rStr ra, rNon rb]; exact h
  · rename_i n1 n2 n3 n4 n5 n6
    have hd := deep_sim ra rb h
    unfold eqB
    split
    · cases p <;> first | (have := rStr ra; cases this; done) | (have := rBl ra; cases this; done) | (have := rNon ra; cases this; done) | (have := rTape ra; cases this; done) | (obtain ⟨_, h', _⟩ := rTup ra; cases h'; done) | (obtain ⟨_, _, h', _⟩ := rLst ra; cases h'; done) | (obtain ⟨_, _, h', _⟩ := rOwn ra; cases h'; done) | (obtain ⟨_, _, h', _⟩ := rDct ra; cases h'; done) | (obtain ⟨_, _, h', _⟩ := rOwnd ra; cases h'; done) | (obtain ⟨_, _, h', _⟩ := rRot ra; cases h'; done) | skip
      cases q <;> first | (have := rStr rb; cases this; done) | (have := rBl rb; cases this; done) | (have := rNon rb; cases this; done) | (have := rTape rb; cases this; done) | (obtain ⟨_, h', _⟩ := rTup rb; cases h'; done) | (obtain ⟨_, _, h', _⟩ := rLst rb; cases h'; done) | (obtain ⟨_, _, h', _⟩ := rOwn rb; cases h'; done) | (obtain ⟨_, _, h', _⟩ := rDct rb; cases h'; done) | (obtain ⟨_, _, h', _⟩ := rOwnd rb; cases h'; done) | (obtain ⟨_, _, h', _⟩ := rRot rb; cases h'; done) | skip
      exact (n1 _ _ rfl rfl).elim
    · cases p <;> first | (have := rInt ra; cases this; done) | (have := rBl ra; cases this; done) | (have := rNon ra; cases this; done) | (have := rTape ra; cases this; done) | (obtain ⟨_, h', _⟩ := rTup ra; cases h'; done) | (obtain ⟨_, _, h', _⟩ := rLst ra; cases h'; done) | (obtain ⟨_, _, h', _⟩ := rOwn ra; cases h'; done) | (obtain ⟨_, _, h', _⟩ := rDct ra; cases h'; done) | (obtain ⟨_, _, h', _⟩ := rOwnd ra; cases h'; done) | (obtain ⟨_, _, h', _⟩ := rRot ra; cases h'; done) | skip
      cases q <;> first | (have := rInt rb; cases this; done) | (have := rBl rb; cases this; done) | (have := rNon rb; cases this; done) | (have := rTape rb; cases this; done) | (obtain ⟨_, h', _⟩ := rTup rb; cases h'; done) | (obtain ⟨_, _, h', _⟩ := rLst rb; cases h'; done) | (obtain ⟨_, _, h', _⟩ := rOwn rb; cases h'; done) | (obtain ⟨_, _, h', _⟩ := rDct rb; cases h'; done) | (obtain ⟨_, _, h', _⟩ := rOwnd rb; cases h'; done) | (obtain ⟨_, _, h', _⟩ := rRot rb; cases h'; done) | skip
      exact (n2 _ _ rfl rfl).elim
    · cases p <;> first | (have := rInt ra; cases this; done) | (have := rStr ra; cases this; done) | (have := rNon ra; cases this; done) | (have := rTape ra; cases this; done) | (obtain ⟨_, h', _⟩ := rTup ra; cases h'; done) | (obtain ⟨_, _, h', _⟩ := rLst ra; cases h'; done) | (obtain ⟨_, _, h', _⟩ := rOwn ra; cases h'; done) | (obtain ⟨_, _, h', _⟩ := rDct ra; cases h'; done) | (obtain ⟨_, _, h', _⟩ := rOwnd ra; cases h'; done) | (obtain ⟨_, _, h', _⟩ := rRot ra; cases h'; done) | skip
      cases q <;> first | (have := rInt rb; cases this; done) | (have := rStr rb; cases this; done) | (have := rNon rb; cases this; done) | (have := rTape rb; cases this; done) | (obtain ⟨_, h', _⟩ := rTup rb; cases h'; done) | (obtain ⟨_, _, h', _⟩ := rLst rb; cases h'; done) | (obtain ⟨_, _, h', _⟩ := rOwn rb; cases h'; done) | (obtain ⟨_, _, h', _⟩ := rDct rb; cases h'; done) | (obtain ⟨_, _, h', _⟩ := rOwnd rb; cases h'; done) | (obtain ⟨_, _, h', _⟩ := rRot rb; cases h'; done) | skip
      exact (n3 _ _ rfl rfl).elim
    · cases p <;> first | (have := rInt ra; cases this; done) | (have := rStr ra; cases this; done) | (have := rBl ra; cases this; done) | (have := rTape ra; cases this; done) | (obtain ⟨_, h', _⟩ := rTup ra; cases h'; done) | (obtain ⟨_, _, h', _⟩ := rLst ra; cases h'; done) | (obtain ⟨_, _, h', _⟩ := rOwn ra; cases h'; done) | (obtain ⟨_, _, h', _⟩ := rDct ra; cases h'; done) | (obtain ⟨_, _, h', _⟩ := rOwnd ra; cases h'; done) | (obtain ⟨_, _, h', _⟩ := rRot ra; cases h'; done) | skip
      cases q <;> first | (have := rInt rb; cases this; done) | (have := rStr rb; cases this; done) | (have := rBl rb; cases this; done) | (have := rTape rb; cases this; done) | (obtain ⟨_, h', _⟩ := rTup rb; cases h'; done) | (obtain ⟨_, _, h', _⟩ := rLst rb; cases h'; done) | (obtain ⟨_, _, h', _⟩ := rOwn rb; cases h'; done) | (obtain ⟨_, _, h', _⟩ := rDct rb; cases h'; done) | (obtain ⟨_, _, h', _⟩ := rOwnd rb; cases h'; done) | (obtain ⟨_, _, h', _⟩ := rRot rb; cases h'; done) | skip
      exact (n4 rfl rfl).elim
    · cases p <;> first | (have := rInt ra; cases this; done) | (have := rStr ra; cases this; done) | (have := rBl ra; cases this; done) | (have := rTape ra; cases this; done) | (obtain ⟨_, h', _⟩ := rTup ra; cases h'; done) | (obtain ⟨_, _, h', _⟩ := rLst ra; cases h'; done) | (obtain ⟨_, _, h', _⟩ := rOwn ra; cases h'; done) | (obtain ⟨_, _, h', _⟩ := rDct ra; cases h'; done) | (obtain ⟨_, _, h', _⟩ := rOwnd ra; cases h'; done) | (obtain ⟨_, _, h', _⟩ := rRot ra; cases h'; done) | skip
      cases q <;> first | (have := rInt rb; cases this; done) | (have := rBl rb; cases this; done) | (have := rNon rb; cases this; done) | (have := rTape rb; cases this; done) | (obtain ⟨_, h', _⟩ := rTup rb; cases h'; done) | (obtain ⟨_, _, h', _⟩ := rLst rb; cases h'; done) | (obtain ⟨_, _, h', _⟩ := rOwn rb; cases h'; done) | (obtain ⟨_, _, h', _⟩ := rDct rb; cases h'; done) | (obtain ⟨_, _, h', _⟩ := rOwnd rb; cases h'; done) | (obtain ⟨_, _, h', _⟩ := rRot rb; cases h'; done) | skip
      exact (n5 _ rfl rfl).elim
    · cases p <;> first | (have := rInt ra; cases this; done) | (have := rBl ra; cases this; done) | (have := rNon ra; cases this; done) | (have := rTape ra; cases this; done) | (obtain ⟨_, h', _⟩ := rTup ra; cases h'; done) | (obtain ⟨_, _, h', _⟩ := rLst ra; cases h'; done) | (obtain ⟨_, _, h', _⟩ := rOwn ra; cases h'; done) | (obtain ⟨_, _, h', _⟩ := rDct ra; cases h'; done) | (obtain ⟨_, _, h', _⟩ := rOwnd ra; cases h'; done) | (obtain ⟨_, _, h', _⟩ := rRot ra; cases h'; done) | skip
      cases q <;> first | (have := rInt rb; cases this; done) | (have := rStr rb; cases this; done) | (have := rBl rb; cases this; done) | (have := rTape rb; cases this; done) | (obtain ⟨_, h', _⟩ := rTup rb; cases h'; done) | (obtain ⟨_, _, h', _⟩ := rLst rb; cases h'; done) | (obtain ⟨_, _, h', _⟩ := rOwn rb; cases h'; done) | (obtain ⟨_, _, h', _⟩ := rDct rb; cases h'; done) | (obtain ⟨_, _, h', _⟩ := rOwnd rb; cases h'; done) | (obtain ⟨_, _, h', _⟩ := rRot rb; cases h'; done) | skip
      exact (n6 _ rfl rfl).elim
    · exact hd
theorem ov_eq : OpV t gEq pEq := fun A B S p q r a b ad ra rb e => by
  unfold pEq at e
  cases h : eqP p q with
  | none => rw [h] at e; cases e
  | some x =>
    rw [h] at e; cases e
    exact ⟨.bl x, [], same (by unfold gEq; rw [eq_sim ra rb h]; rfl), mBl'⟩
theorem ov_ne : OpV t gNe pNe := fun A B S p q r a b ad ra rb e => by
  unfold pNe at e
  cases h : eqP p q with
  | none => rw [h] at e; cases e
  | some x =>
    rw [h] at e; cases e
    exact ⟨.bl (!x), [], same (by unfold gNe; rw [eq_sim ra rb h]; rfl), mBl'⟩
theorem ov_lt : OpV t gLt pLt := fun A B S p q r a b ad ra rb e => by
  unfold pLt at e
  split at e
  · cases e; rw [rInt ra, rInt rb]; exact ⟨_, [], same rfl, mBl'⟩
  · cases e; rw [rStr ra, rStr rb]; exact ⟨_, [], same rfl, mBl'⟩
  · cases e
theorem ov_le : OpV t gLe pLe := fun A B S p q r a b ad ra rb e => by
  unfold pLe at e
  split at e
  · cases e; rw [rInt ra, rInt rb]; exact ⟨_, [], same rfl, mBl'⟩
  · cases e; rw [rStr ra, rStr rb]; exact ⟨_, [], same rfl, mBl'⟩
  · cases e
theorem ov_gt : OpV t gGt pGt := fun A B S p q r a b ad ra rb e => by
  unfold pGt at e
  split at e
  · cases e; rw [rInt ra, rInt rb]; exact ⟨_, [], same rfl, mBl'⟩
  · cases e; rw [rStr ra, rStr rb]; exact ⟨_, [], same rfl, mBl'⟩
  · cases e
theorem ov_ge : OpV t gGe pGe := fun A B S p q r a b ad ra rb e => by
  unfold pGe at e
  split at e
  · cases e; rw [rInt ra, rInt rb]; exact ⟨_, [], same rfl, mBl'⟩
  · cases e; rw [rStr ra, rStr rb]; exact ⟨_, [], same rfl, mBl'⟩
  · cases e
theorem non_sim {S : Sto} {A B : Nat → Prop} {p : P} {a : D} (ra : RdT t S A B p a) : isNon a = isNonP p := by
  cases p with
  | non => rw [rNon ra]; rfl
  | bl _ => rw [rBl ra]; rfl
  | int _ => rw [rInt ra]; rfl
  | str _ => rw [rStr ra]; rfl
  | tape => rw [rTape ra]; rfl
  | tup _ => obtain ⟨_, rfl, _⟩ := rTup ra; rfl
  | lst _ => obtain ⟨_, _, rfl, _⟩ := rLst ra; rfl
  | own _ => obtain ⟨_, _, rfl, _⟩ := rOwn ra; rfl
  | dct _ => obtain ⟨_, _, rfl, _⟩ := rDct ra; rfl
  | ownd _ => obtain ⟨_, _, rfl, _⟩ := rOwnd ra; rfl
  | rot _ => obtain ⟨_, _, rfl, _⟩ := rRot ra; rfl
theorem ov_is : OpV t gIs pIs := fun A B S p q r a b ad ra rb e => by
  unfold pIs at e
  split at e
  · cases e; rw [rNon rb]; exact ⟨.bl (isNonP p), [], same (by show some (D.bl (isNon a), S) = _; rw [non_sim ra]), mBl'⟩
  · cases e
theorem ov_isnot : OpV t gIsNot pIsNot := fun A B S p q r a b ad ra rb e => by
  unfold pIsNot at e
  split at e
  · cases e; rw [rNon rb]; exact ⟨.bl (!isNonP p), [], same (by show some (D.bl (!isNon a), S) = _; rw [non_sim ra]), mBl'⟩
  · cases e
theorem sc_sim {S : Sto} {A B : Nat → Prop} {p : P} {a : D} (ra : RdT t S A B p a) (h : p.sc = true) : a.flat = true := by
  cases p <;> first | cases h | skip
  · rw [rNon ra]; rfl
  · rw [rBl ra]; rfl
  · rw [rInt ra]; rfl
  · rw [rStr ra]; rfl
theorem eqS_sim {S : Sto} {A B : Nat → Prop} {p q : P} {a b : D} (ra : RdT t S A B p a) (rb : RdT t S A B q b) (h : p.sc = true) (h' : q.sc = true) : eqF a b = eqS p q := by
  cases p <;> first | cases h | skip
  all_goals (cases q <;> first | cases h' | skip)
  all_goals first | rw [rNon ra] | rw [rBl ra] | rw [rInt ra] | rw [rStr ra]
  all_goals first | rw [rNon rb] | rw [rBl rb] | rw [rInt rb] | rw [rStr rb]
  all_goals rfl
theorem inS_sim {S : Sto} {A B : Nat → Prop} {p : P} {a : D} (ra : RdT t S A B p a) (h : p.sc = true) : ∀ {l : List P} {ds : List D}, Rds t S B l ds → l.all P.sc = true → ds.all D.flat = true ∧ inF a ds = inS p l
  | [], _, q, _ => by unfold Rds at q; subst q; exact ⟨rfl, rfl⟩
  | x :: l, _, q, hl => by
    unfold Rds at q
    obtain ⟨d, r, rfl, q1, q2⟩ := q
    simp only [List.all_cons, Bool.and_eq_true] at hl
    obtain ⟨i1, i2⟩ := inS_sim ra h q2 hl.2
    have q1' : RdT t S A B x d := .of q1
    refine ⟨by rw [List.all_cons, sc_sim q1' hl.1, i1]; rfl, ?_⟩
    show (eqF d a || inF a r) = (eqS x p || inS p l)
    rw [eqS_sim q1' ra hl.1 h, i2]
theorem in_sim {S : Sto} {A B : Nat → Prop} {p q : P} {a b : D} {x : Bool} (ra : RdT t S A B p a) (rb : RdT t S A B q b) (h : inP p q = some x) : inB a b S = some x := by
  have key : ∀ l, items q = some l → p.sc = true → l.all P.sc = true → x = inS p l → (∀ y z, ¬ (a = .str y ∧ b = .str z)) → inB a b S = some x := fun l h1 h2 h3 h4 h5 => by
    obtain ⟨ds, e1, e2⟩ := RdT.items rb h1
    obtain ⟨i1, i2⟩ := inS_sim ra h2 e2 h3
    unfold inB
    split
    · exact (h5 _ _ ⟨rfl, rfl⟩).elim
    · rw [e1]
      simp only
      rw [if_pos ⟨sc_sim ra h2, i1⟩, i2, h4]
  unfold inP at h
  split at h
  · rw [rStr ra, rStr rb]; exact h
  · rename_i n1
    split at h
    · rename_i l hl
      split at h
      · rename_i hc
        cases h
        refine key l hl hc.1 hc.2 rfl fun y z e => ?_
        cases q <;> first | cases hl | skip
        · obtain ⟨_, h', _⟩ := rTup rb; rw [e.2] at h'; cases h'
        · obtain ⟨_, _, h', _⟩ := rLst rb; rw [e.2] at h'; cases h'
        · obtain ⟨_, _, h', _⟩ := rOwn rb; rw [e.2] at h'; cases h'
      · cases h
    · cases h
theorem ov_in : OpV t gIn pIn := fun A B S p q r a b ad ra rb e => by
  unfold pIn at e
  cases h : inP p q with
  | none => rw [h] at e; cases e
  | some x =>
    rw [h] at e; cases e
    exact ⟨.bl x, [], same (by unfold gIn; rw [in_sim ra rb h]; rfl), mBl'⟩
theorem ov_notin : OpV t gNotIn pNotIn := fun A B S p q r a b ad ra rb e => by
  unfold pNotIn at e
  cases h : inP p q with
  | none => rw [h] at e; cases e
  | some x =>
    rw [h] at e; cases e
    exact ⟨.bl (!x), [], same (by unfold gNotIn; rw [in_sim ra rb h]; rfl), mBl'⟩
theorem Rds.at {S : Sto} {B : Nat → Prop} {ps : List P} {ds : List D} {i : Int} {p : P} (h : Rds t S B ps ds) (e : atI ps i = some p) : ∃ d, atI ds i = some d ∧ Rd t S B p d := by
  unfold atI at e ⊢
  rw [← h.len]
  cases hn : ixN ps.length i with
  | none => rw [hn] at e; cases e
  | some j =>
    rw [hn] at e
    exact h.get e
theorem ov_ix : OpV t gIx pIx := fun A B S p q r a b ad ra rb e => by
  unfold pIx at e
  split at e
  · split at e
    · rename_i hz
      split at e
      · rename_i c hc
        cases e; rw [rStr ra, rInt rb]
        exact ⟨_, [], same (by unfold gIx; simp only; rw [if_pos hz, hc]), mStr'⟩
      · cases e
    · cases e
  · rename_i n1
    split at e
    · rename_i l hl
      obtain ⟨ds, e1, e2⟩ := RdT.items ra hl
      obtain ⟨d, e3, e4⟩ := e2.at e
      rw [rInt rb]
      refine ⟨d, [], same ?_, Rd.nil e4⟩
      unfold gIx
      split
      · cases p <;> first | cases hl | skip
        · obtain ⟨_, h', _⟩ := rTup ra; cases h'
        · obtain ⟨_, _, h', _⟩ := rLst ra; cases h'
        · obtain ⟨_, _, h', _⟩ := rOwn ra; cases h'
      · rename_i h5
        cases h5
        rw [e1]
        simp only [e3]
      · rename_i h5 h6; first | exact absurd rfl (h5 _) | exact absurd rfl (h6 _) | exact absurd rfl (h5 _ _ rfl) | (exfalso; apply h5 <;> rfl) | (exfalso; apply h6 <;> rfl)
    · cases e
  · cases e
theorem Rds.cut {S : Sto} {B : Nat → Prop} {ps : List P} {ds : List D} (h : Rds t S B ps ds) (lo hi : Option Int) : Rds t S B (cutP ps lo hi) (DL.cutD ds lo hi) := by
  unfold cutP DL.cutD
  rw [h.len]
  exact (h.drop _).take _
theorem uv_neg : UnV t gNeg pNeg := fun A B S p r a ad ra e => by
  unfold pNeg at e
  split at e
  · cases e; rw [rInt ra]; exact ⟨_, [], same rfl, mInt'⟩
  · cases e
end
end VL
namespace VL
open PySem PySem.Spec PyProof.Rows L2 RT RZ DL

/-! ### slices -/
def vOpt (f : Option (PE → Tau → AP P)) : PE → Tau → AP (Option Int) := fun pe τ => match f with
  | none => some (.ok none, τ)
  | some f => bindV (f pe τ) fun d τ1 => match d with
    | .int i => some (.ok (some i), τ1)
    | _ => none
def vSl (fa : PE → Tau → AP P) (fl fh : Option (PE → Tau → AP P)) : PE → Tau → AP P := fun pe τ => bindV (fa pe τ) fun a τ1 => bindV (vOpt fl pe τ1) fun lo τ2 => bindV (vOpt fh pe τ2) fun hi τ3 => okV (pSl a lo hi) τ3
section
variable {t s : Nat} {ns : List Int} {fa fb : Ev → Sto → Ans D} {ga gb : PE → Tau → AP P} {fs : Ev → Sto → Ans (List D)} {gs : PE → Tau → AP (List P)} {fl fh : Option (Ev → Sto → Ans D)} {gl gh : Option (PE → Tau → AP P)}
abbrev SimO (t s : Nat) (ns : List Int) (f : Option (Ev → Sto → Ans D)) (g : Option (PE → Tau → AP P)) : Prop := SimG t s ns (fun _ _ _ (a b : Option Int) => a = b) (dOpt f) (vOpt g)
theorem vo_none : SimO t s ns none none := fun A B S env pe τ a T r => Sim1.ret T rfl
theorem vo_some (h : SimE t s ns fa ga) : SimO t s ns (some fa) (some ga) := fun A B S env pe τ a T r => (h A B S env pe τ a T r).bind fun x y S1 τ1 f1 T1 q1 => by
  cases x with
  | int i => rw [rInt q1]; exact Sim1.ret T1 rfl
  | _ => exact Sim1.none
theorem sl_sim {A B : Nat → Prop} {S : Sto} {p r : P} {d : D} {lo hi : Option Int} (ad : Adm t A B S) (h : RdT t S A B p d) (e : pSl p lo hi = some r) : (∃ l ds, r = .lst l ∧ gSl d lo hi S = some (.ref S.length, S ++ [.lst ds]) ∧ Rds t S B l ds) ∨ (∃ x, gSl d lo hi S = some (x, S) ∧ Rd t S B r x ∧ ∀ l, r ≠ .lst l) := by
  unfold pSl at e
  split at e
  · split at e
    · rename_i hz
      cases e
      rw [rStr h]
      exact .inr ⟨_, by unfold gSl; exact if_pos hz, mStr', fun l z => by cases z⟩
    · cases e
  · cases e
    obtain ⟨ds, rfl, q⟩ := rTup h
    exact .inr ⟨_, rfl, mTup' (q.cut lo hi), fun l z => by cases z⟩
  · cases e
    obtain ⟨n, ds, rfl, e1, q⟩ := rLst h
    exact .inl ⟨_, DL.cutD ds lo hi, rfl, by rw [E_gSl_ref, seq_lst e1], q.cut lo hi⟩
  · cases e
    obtain ⟨n, ds, rfl, e1, q⟩ := rOwn h
    exact .inl ⟨_, DL.cutD ds lo hi, rfl, by rw [E_gSl_ref, seq_lst e1], q.cut lo hi⟩
  · cases e
theorem v_sl (ha : SimE t s ns fa ga) (hl : SimO t s ns fl gl) (hh : SimO t s ns fh gh) : SimE t s ns (dSl fa fl fh) (vSl ga gl gh) := fun A B S env pe τ a T r =>
  (ha A B S env pe τ a T r).bind fun x y S1 τ1 f1 T1 q1 => (hl A B S1 env pe τ1 (a.fr f1.len) T1 (r.fr f1 a)).bind fun x2 y2 S2 τ2 f2 T2 q2 => by
    have a2 := (a.fr f1.len).fr f2.len
    refine (hh A B S2 env pe τ2 a2 T2 ((r.fr f1 a).fr f2 (a.fr f1.len))).bind fun x3 y3 S3 τ3 f3 T3 q3 => ?_
    subst q2 q3
    intro r τ' e
    cases hs : pSl x x2 x3 with
    | none => rw [hs] at e; cases e
    | some p =>
      rw [hs] at e
      cases e
      have q1' := f3.rdt a2 (f2.rdt (a.fr f1.len) q1)
      rcases sl_sim (a2.fr f3.len) q1' hs with ⟨l, ds, rfl, e1, e2⟩ | ⟨z, e1, e2, _⟩
      · exact ⟨.ok (.ref S3.length), S3 ++ [O.lst ds], by rw [e1]; rfl, Fr.app _ _, T3.app _, show RdT t (S3 ++ [O.lst ds]) A B (.lst l) (.ref S3.length) from RdT.of (e2.lst (a2.fr f3.len))⟩
      · exact ⟨.ok z, S3, by rw [e1]; rfl, Fr.refl, T3, .of e2⟩
/-- a slice of what is a list -/
def vSlL (fa : PE → Tau → AP P) (fl fh : Option (PE → Tau → AP P)) : PE → Tau → AP P := fun pe τ => bindV (fa pe τ) fun a τ1 => bindV (vOpt fl pe τ1) fun lo τ2 => bindV (vOpt fh pe τ2) fun hi τ3 => okV (match pSl a lo hi with | some (.lst l) => some (.lst l) | _ => none) τ3
theorem v_slL (ha : SimE t s ns fa ga) (hl : SimO t s ns fl gl) (hh : SimO t s ns fh gh) : SimF t s ns (dSl fa fl fh) (vSlL ga gl gh) := fun A B S env pe τ a T r =>
  (ha A B S env pe τ a T r).bind fun x y S1 τ1 f1 T1 q1 => (hl A B S1 env pe τ1 (a.fr f1.len) T1 (r.fr f1 a)).bind fun x2 y2 S2 τ2 f2 T2 q2 => by
    have a2 := (a.fr f1.len).fr f2.len
    refine (hh A B S2 env pe τ2 a2 T2 ((r.fr f1 a).fr f2 (a.fr f1.len))).bind fun x3 y3 S3 τ3 f3 T3 q3 => ?_
    subst q2 q3
    intro r τ' e
    cases hs : pSl x x2 x3 with
    | none => simp only [hs] at e; cases e
    | some p =>
      simp only [hs] at e
      cases p <;> first | (cases e; done) | skip
      rename_i l
      cases e
      have q1' := f3.rdt a2 (f2.rdt (a.fr f1.len) q1)
      rcases sl_sim (a2.fr f3.len) q1' hs with ⟨l, ds, h0, e1, e2⟩ | ⟨z, e1, e2, e3⟩
      · cases h0
        exact ⟨.ok (.ref S3.length), S3 ++ [O.lst ds], by rw [e1]; rfl, Fr.app _ _, T3.app _, l, S3.length, ds, rfl, rfl, Nat.le_trans f1.len (Nat.le_trans f2.len f3.len), get_last _ _, e2.freshen _⟩
      · exact (e3 _ rfl).elim
end

/-! ### calls of built-ins -/
def qTup (l : List P) : Option P := if l.length ≤ sizeLine ∧ l.any P.isOwn = false then some (.tup l) else none
def qLst (l : List P) : Option P := if l.length ≤ sizeLine ∧ l.any P.isOwn = false then some (.lst l) else none
def qInt : List P → Option P
  | [.int i] => some (.int i)
  | [.bl k] => some (.int (if k then 1 else 0))
  | _ => none
def qAbs : List P → Option P
  | [.int i] => some (.int (if i < 0 then -i else i))
  | _ => none
def qMax2 : List P → Option P
  | [.int i, .int j] => some (.int (if j > i then j else i))
  | _ => none
def qMin2 : List P → Option P
  | [.int i, .int j] => some (.int (if j < i then j else i))
  | _ => none
def qLen1 : P → Option P
  | .str x => if x.length ≤ sizeLine then some (.int x.length) else none
  | p => match items p with
    | some ds => some (.int ds.length)
    | none => none
def qLen : List P → Option P
  | [p] => qLen1 p
  | _ => none
def qList : List P → Option P
  | [d] => match items d with
    | some ds => some (.lst ds)
    | none => none
  | _ => none
def qTuple : List P → Option P
  | [d] => match items d with
    | some ds => some (.tup ds)
    | none => none
  | _ => none
def qStr : List P → Option P
  | [.int i] => if i.natAbs.log2 < 1920 then some (.str (Str.ofString (toString i))) else none
  | [.str x] => some (.str x)
  | _ => none
def intsP : List P → Option (List Int)
  | [] => some []
  | .int i :: ds => match intsP ds with
    | some is => some (i :: is)
    | none => none
  | _ => none
def strsP : List P → Option (List Str)
  | [] => some []
  | .str i :: ds => match strsP ds with
    | some is => some (i :: is)
    | none => none
  | _ => none
def blsP : List P → Option (List Bool)
  | [] => some []
  | .bl i :: ds => match blsP ds with
    | some is => some (i :: is)
    | none => none
  | _ => none
def qSum : List P → Option P
  | [d] => match lstOf d with
    | some ds => match intsP ds with
      | some is => some (.int is.sum)
      | none => none
    | none => none
  | _ => none
def qAny : List P → Option P
  | [d] => match lstOf d with
    | some ds => match blsP ds with
      | some is => some (.bl (is.any id))
      | none => none
    | none => none
  | _ => none
def qAll : List P → Option P
  | [d] => match lstOf d with
    | some ds => match blsP ds with
      | some is => some (.bl (is.all id))
      | none => none
    | none => none
  | _ => none
def qSortedS : List P → Option P
  | [d] => match lstOf d with
    | some ds => match strsP ds with
      | some is => if is.length < 64 then some (.lst ((sortS is).map P.str)) else none
      | none => none
    | none => none
  | _ => none
section
variable {t : Nat}
theorem rds1 {S : Sto} {A B : Nat → Prop} {p : P} {ds : List D} (h : RdTs t S A B [p] ds) : ∃ d, ds = [d] ∧ RdT t S A B p d := by
  obtain ⟨d, r, rfl, h1, h2⟩ := h
  cases h2
  exact ⟨d, rfl, h1⟩
theorem rds2 {S : Sto} {A B : Nat → Prop} {p q : P} {ds : List D} (h : RdTs t S A B [p, q] ds) : ∃ d e, ds = [d, e] ∧ RdT t S A B p d ∧ RdT t S A B q e := by
  obtain ⟨d, r, rfl, h1, h2⟩ := h
  obtain ⟨e, rfl, h3⟩ := rds1 h2
  exact ⟨d, e, rfl, h1, h3⟩
theorem cv_tup : CallV t DL.gTup qTup := fun A B S ps r ds ad h e => by
  unfold qTup at e
  split at e
  · rename_i hz
    cases e
    have q := RdTs.of ps hz.2 h
    exact ⟨_, [], same (by unfold DL.gTup; exact if_pos (by rw [← q.len]; exact hz.1)), Rd.nil (mTup' q)⟩
  · cases e
theorem cv_lst : CallVF t DL.gLst qLst := fun A B S ps l es ad h e => by
  unfold qLst at e
  split at e
  · rename_i hz
    cases e
    have q := RdTs.of ps hz.2 h
    exact ⟨es, by unfold DL.gLst; exact if_pos (by rw [← q.len]; exact hz.1), q⟩
  · cases e
theorem ls_lst : Lsty qLst := fun a r e => by
  unfold qLst at e
  split at e
  · cases e; exact ⟨_, rfl⟩
  · cases e
theorem cv_int : CallV t cInt qInt := fun A B S ps r ds ad h e => by
  unfold qInt at e
  split at e
  · cases e
    obtain ⟨d, rfl, q⟩ := rds1 h
    rw [rInt q]; exact ⟨_, [], same rfl, mInt'⟩
  · cases e
    obtain ⟨d, rfl, q⟩ := rds1 h
    rw [rBl q]; exact ⟨_, [], same rfl, mInt'⟩
  · cases e
theorem cv_abs : CallV t cAbs qAbs := fun A B S ps r ds ad h e => by
  unfold qAbs at e
  split at e
  · cases e
    obtain ⟨d, rfl, q⟩ := rds1 h
    rw [rInt q]; exact ⟨_, [], same rfl, mInt'⟩
  · cases e
theorem cv_max2 : CallV t cMax2 qMax2 := fun A B S ps r ds ad h e => by
  unfold qMax2 at e
  split at e
  · cases e
    obtain ⟨d, d2, rfl, q, q2⟩ := rds2 h
    rw [rInt q, rInt q2]; exact ⟨_, [], same rfl, mInt'⟩
  · cases e
theorem cv_min2 : CallV t cMin2 qMin2 := fun A B S ps r ds ad h e => by
  unfold qMin2 at e
  split at e
  · cases e
    obtain ⟨d, d2, rfl, q, q2⟩ := rds2 h
    rw [rInt q, rInt q2]; exact ⟨_, [], same rfl, mInt'⟩
  · cases e
theorem cv_len : CallV t cLen qLen := fun A B S ps r ds ad h e => by
  unfold qLen at e
  split at e
  · obtain ⟨d, rfl, q⟩ := rds1 h
    unfold qLen1 at e
    split at e
    · split at e
      · rename_i hz
        cases e
        rw [rStr q]
        exact ⟨_, [], same (by unfold cLen; exact if_pos hz), mInt'⟩
      · cases e
    · split at e
      · rename_i l hl
        cases e
        obtain ⟨es, e1, e2⟩ := q.items hl
        refine ⟨.int l.length, [], same ?_, mInt'⟩
        rw [e2.len]
        unfold cLen
        split
        · rename_i h5
          cases h5
          cases e1
        · rename_i h5; cases h5; rw [e1]
        · rename_i h5; exact (h5 _ rfl).elim
      · cases e
  · cases e
theorem cv_list : CallVF t cList qList := fun A B S ps l es ad h e => by
  unfold qList at e
  split at e
  · obtain ⟨d, rfl, q⟩ := rds1 h
    split at e
    · rename_i l hl
      cases e
      obtain ⟨es, e1, e2⟩ := q.items hl
      exact ⟨es, by rw [E_cList, e1], e2⟩
    · cases e
  · cases e
theorem ls_list : Lsty qList := fun a r e => by
  unfold qList at e
  split at e
  · split at e
    · cases e; exact ⟨_, rfl⟩
    · cases e
  · cases e
theorem cv_tuple : CallV t cTuple qTuple := fun A B S ps r ds ad h e => by
  unfold qTuple at e
  split at e
  · obtain ⟨d, rfl, q⟩ := rds1 h
    split at e
    · rename_i l hl
      cases e
      obtain ⟨es, e1, e2⟩ := q.items hl
      exact ⟨.tup es, [], same (by rw [E_cTuple, e1]), Rd.nil (mTup' e2)⟩
    · cases e
  · cases e
theorem cv_str : CallV t cStr qStr := fun A B S ps r ds ad h e => by
  unfold qStr at e
  split at e
  · split at e
    · rename_i hz
      cases e
      obtain ⟨d, rfl, q⟩ := rds1 h
      rw [rInt q]; exact ⟨_, [], same (by unfold cStr; exact if_pos hz), mStr'⟩
    · cases e
  · cases e
    obtain ⟨d, rfl, q⟩ := rds1 h
    rw [rStr q]; exact ⟨_, [], same rfl, mStr'⟩
  · cases e
theorem ints_sim {S : Sto} {B : Nat → Prop} : ∀ {l : List P} {ds : List D} {is : List Int}, Rds t S B l ds → intsP l = some is → intsOf ds = some is
  | [], _, _, q, e => by unfold Rds at q; subst q; exact e
  | p :: l, _, is, q, e => by
    unfold Rds at q
    obtain ⟨d, r, rfl, q1, q2⟩ := q
    cases p <;> first | cases e | skip
    unfold Rd at q1
    subst q1
    unfold intsP at e
    split at e
    · rename_i js hj
      cases e
      simp only [intsOf, ints_sim q2 hj]
    · cases e
theorem strs_sim {S : Sto} {B : Nat → Prop} : ∀ {l : List P} {ds : List D} {is : List Str}, Rds t S B l ds → strsP l = some is → strsOf ds = some is
  | [], _, _, q, e => by unfold Rds at q; subst q; exact e
  | p :: l, _, is, q, e => by
    unfold Rds at q
    obtain ⟨d, r, rfl, q1, q2⟩ := q
    cases p <;> first | cases e | skip
    unfold Rd at q1
    subst q1
    unfold strsP at e
    split at e
    · rename_i js hj
      cases e
      simp only [strsOf, strs_sim q2 hj]
    · cases e
theorem bls_sim {S : Sto} {B : Nat → Prop} : ∀ {l : List P} {ds : List D} {is : List Bool}, Rds t S B l ds → blsP l = some is → blsOf ds = some is
  | [], _, _, q, e => by unfold Rds at q; subst q; exact e
  | p :: l, _, is, q, e => by
    unfold Rds at q
    obtain ⟨d, r, rfl, q1, q2⟩ := q
    cases p <;> first | cases e | skip
    unfold Rd at q1
    subst q1
    unfold blsP at e
    split at e
    · rename_i js hj
      cases e
      simp only [blsOf, bls_sim q2 hj]
    · cases e
theorem cv_sum : CallV t cSum qSum := fun A B S ps r ds ad h e => by
  unfold qSum at e
  split at e
  · obtain ⟨d, rfl, q⟩ := rds1 h
    split at e
    · rename_i l hl
      split at e
      · rename_i is hi
        cases e
        obtain ⟨n, es, rfl, e1, e2⟩ := rList hl q
        exact ⟨_, [], same (by simp only [cSum, seq_lst e1, ints_sim e2 hi]), mInt'⟩
      · cases e
    · cases e
  · cases e
theorem cv_any : CallV t cAny qAny := fun A B S ps r ds ad h e => by
  unfold qAny at e
  split at e
  · obtain ⟨d, rfl, q⟩ := rds1 h
    split at e
    · rename_i l hl
      split at e
      · rename_i is hi
        cases e
        obtain ⟨n, es, rfl, e1, e2⟩ := rList hl q
        exact ⟨_, [], same (by simp only [cAny, seq_lst e1, bls_sim e2 hi]), mBl'⟩
      · cases e
    · cases e
  · cases e
theorem cv_all : CallV t cAll qAll := fun A B S ps r ds ad h e => by
  unfold qAll at e
  split at e
  · obtain ⟨d, rfl, q⟩ := rds1 h
    split at e
    · rename_i l hl
      split at e
      · rename_i is hi
        cases e
        obtain ⟨n, es, rfl, e1, e2⟩ := rList hl q
        exact ⟨_, [], same (by simp only [cAll, seq_lst e1, bls_sim e2 hi]), mBl'⟩
      · cases e
    · cases e
  · cases e
theorem strsRd {S : Sto} {B : Nat → Prop} : ∀ (xs : List Str), Rds t S B (xs.map P.str) (xs.map D.str)
  | [] => Rds.nil
  | x :: xs => Rds.cons mStr' (strsRd xs)
theorem cv_sortedS : CallVF t cSortedS qSortedS := fun A B S ps l es ad h e => by
  unfold qSortedS at e
  split at e
  · obtain ⟨d, rfl, q⟩ := rds1 h
    split at e
    · rename_i l hl
      split at e
      · rename_i is hi
        split at e
        · rename_i hz
          cases e
          obtain ⟨n, es, rfl, e1, e2⟩ := rList hl q
          exact ⟨_, by simp only [cSortedS, seq_lst e1, strs_sim e2 hi]; rw [if_pos hz], strsRd _⟩
        · cases e
      · cases e
    · cases e
  · cases e
theorem ls_sortedS : Lsty qSortedS := fun a r e => by
  unfold qSortedS at e
  split at e
  · split at e
    · split at e
      · split at e
        · cases e; exact ⟨_, rfl⟩
        · cases e
      · cases e
    · cases e
  · cases e
end

/-! ### sorted(set(..)) of texts -/
def qSS (p : P) : Option P := match items p with
  | some ds => match strsP ds with
    | some xs => if xs.length ≤ 4000 then some (.lst ((sortU xs).map P.str)) else none
    | none => none
  | none => none
def vSS (fa : PE → Tau → AP P) : PE → Tau → AP P := fun pe τ => bindV (fa pe τ) fun a τ1 => okV (qSS a) τ1
theorem v_ss {t s : Nat} {ns : List Int} {fa : Ev → Sto → Ans D} {ga : PE → Tau → AP P} (ha : SimE t s ns fa ga) : SimF t s ns (dSS fa) (vSS ga) := fun A B S env pe τ a T r =>
  (ha A B S env pe τ a T r).bind fun x y S1 τ1 f1 T1 q1 => fun r τ' e => by
    cases hh : qSS x with
    | none => rw [hh] at e; cases e
    | some p =>
      rw [hh] at e
      cases e
      unfold qSS at hh
      split at hh
      · rename_i l hl
        split at hh
        · rename_i xs hx
          split at hh
          · rename_i hz
            cases hh
            obtain ⟨ds, e1, e2⟩ := q1.items hl
            have e3 := strs_sim e2 hx
            refine ⟨.ok (.ref S1.length), S1 ++ [O.lst ((sortU xs).map D.str)], ?_, Fr.app _ _, T1.app _, (sortU xs).map P.str, S1.length, (sortU xs).map D.str, rfl, rfl, f1.len, get_last _ _, (strsRd _).freshen _⟩
            simp only [gSS, e1, e3, if_pos hz, okO_someE]
          · cases hh
        · cases hh
      · cases hh

/-! ### isinstance -/
def tyP : P → Option String
  | .non => some "NoneType"
  | .bl _ => some "bool"
  | .int _ => some "int"
  | .str _ => some "str"
  | .tup _ => some "tuple"
  | .lst _ => some "list"
  | .own _ => some "list"
  | .dct _ => some "dict"
  | .ownd _ => some "dict"
  | .rot _ => none
  | .tape => none
def vIsi (T : String) (fa : PE → Tau → AP P) : PE → Tau → AP P := fun pe τ => bindV (fa pe τ) fun a τ1 => match tyP a with
  | some n => match kitB n T with
    | some b => some (.ok (.bl b), τ1)
    | none => none
  | none => none
section
variable {t s : Nat} {ns : List Int} {fa fb : Ev → Sto → Ans D} {ga gb : PE → Tau → AP P} {fs : Ev → Sto → Ans (List D)} {gs : PE → Tau → AP (List P)} {S S' : Sto} {A B : Nat → Prop}
theorem ty_sim {p : P} {d : D} {x : String} (h : RdT t S A B p d) (e : tyP p = some x) : tyN d S = some x := by
  cases p with
  | non => rw [rNon h]; exact e
  | bl _ => rw [rBl h]; exact e
  | int _ => rw [rInt h]; exact e
  | str _ => rw [rStr h]; exact e
  | tup _ => obtain ⟨_, rfl, _⟩ := rTup h; exact e
  | lst _ => obtain ⟨n, ds, rfl, e1, _⟩ := rLst h; simp only [tyN, e1]; exact e
  | own _ => obtain ⟨n, ds, rfl, e1, _⟩ := rOwn h; simp only [tyN, e1]; exact e
  | dct _ => obtain ⟨n, ds, rfl, e1, _⟩ := rDct h; simp only [tyN, e1]; exact e
  | ownd _ => obtain ⟨n, ds, rfl, e1, _⟩ := rOwnd h; simp only [tyN, e1]; exact e
  | rot _ => cases e
  | tape => cases e
theorem v_isi (T : String) (ha : SimE t s ns fa ga) : SimE t s ns (dIsi T fa) (vIsi T ga) := fun A B S env pe τ a T' r => (ha A B S env pe τ a T' r).bind fun x y S1 τ1 f1 T1 q1 => by
  cases hx : tyP x with
  | none => exact Sim1.none
  | some n =>
    rw [ty_sim q1 hx]
    simp only
    cases hk : kitB n T with
    | none => exact Sim1.none
    | some b => exact Sim1.ret T1 (.of mBl')

/-! ### what is walked -/
def wvSeq (fe : PE → Tau → AP P) : PE → Tau → AP (List P) := fun pe τ => bindV (fe pe τ) fun d τ1 => okV (items d) τ1
/-- the same for a loop: no own list -/
def itemsC (p : P) : Option (List P) := if p.isOwn = true then none else items p
def wvSeqC (fe : PE → Tau → AP P) : PE → Tau → AP (List P) := fun pe τ => bindV (fe pe τ) fun d τ1 => okV (itemsC d) τ1
def rangeP (lo : Int) (n : Nat) : List P := (List.range n).map fun (k : Nat) => P.int (lo + k)
noncomputable def qRange : List P → Option (List P)
  | [.int j] => if RgB j then some (rangeP 0 j.toNat) else none
  | [.int i, .int j] => if RgB i ∧ RgB j then some (rangeP i (j - i).toNat) else none
  | _ => none
noncomputable def wvRange (gs : PE → Tau → AP (List P)) : PE → Tau → AP (List P) := fun pe τ => bindV (gs pe τ) fun ps τ1 => okV (qRange ps) τ1
def wvRev (fe : PE → Tau → AP P) : PE → Tau → AP (List P) := fun pe τ => bindV (fe pe τ) fun d τ1 => okV ((items d).map List.reverse) τ1
def wvRevC (fe : PE → Tau → AP P) : PE → Tau → AP (List P) := fun pe τ => bindV (fe pe τ) fun d τ1 => okV ((itemsC d).map List.reverse) τ1
def charsP (x : Str) : List P := x.cps.toList.map fun c => P.str ⟨#[c]⟩
def wvStr (fe : PE → Tau → AP P) : PE → Tau → AP (List P) := fun pe τ => bindV (fe pe τ) fun d τ1 => match d with
  | .str x => some (.ok (charsP x), τ1)
  | _ => none
def enumP (xs : List P) : List P := (xs.zipIdx).map fun p => P.tup [.int p.2, p.1]
def qEnum : List P → Option (List P)
  | [d] => (items d).map enumP
  | _ => none
def qEnumC : List P → Option (List P)
  | [d] => (itemsC d).map enumP
  | _ => none
def wvEnum (gs : PE → Tau → AP (List P)) : PE → Tau → AP (List P) := fun pe τ => bindV (gs pe τ) fun ps τ1 => okV (qEnum ps) τ1
def wvEnumC (gs : PE → Tau → AP (List P)) : PE → Tau → AP (List P) := fun pe τ => bindV (gs pe τ) fun ps τ1 => okV (qEnumC ps) τ1
def zipP (xs ys : List P) : List P := (xs.zip ys).map fun p => P.tup [p.1, p.2]
def isTupP : P → Bool
  | .tup _ => true
  | _ => false
def qZip : List P → Option (List P)
  | [a, b] => match items a, items b with
    | some xs, some ys => if isTupP a = isTupP b then some (zipP xs ys) else none
    | _, _ => none
  | _ => none
def qZipC : List P → Option (List P)
  | [a, b] => match itemsC a, itemsC b with
    | some xs, some ys => if isTupP a = isTupP b then some (zipP xs ys) else none
    | _, _ => none
  | _ => none
def wvZip (gs : PE → Tau → AP (List P)) : PE → Tau → AP (List P) := fun pe τ => bindV (gs pe τ) fun ps τ1 => okV (qZip ps) τ1
def wvZipC (gs : PE → Tau → AP (List P)) : PE → Tau → AP (List P) := fun pe τ => bindV (gs pe τ) fun ps τ1 => okV (qZipC ps) τ1
/-- the items, and that they stay while A (B) stays -/
theorem it_weak {p : P} {d : D} {l : List P} (a : Adm t A B S) (h : RdT t S A B p d) (e : items p = some l) : ∃ ds, seqOf d S = some ds ∧ Rds t S B l ds ∧ ∀ S', (∀ n, n < S.length → A n → S'[n]? = S[n]?) → seqOf d S' = some ds := by
  cases p <;> first | cases e | skip
  · obtain ⟨ds, rfl, q⟩ := rTup h
    exact ⟨ds, rfl, q, fun _ _ => rfl⟩
  · unfold RdT Rd at h
    obtain ⟨n, ds, rfl, hb, g, q⟩ := h
    exact ⟨ds, seq_lst g, q, fun S' k => seq_lst (by rw [k n (lst_lt g) (a.sub n hb), g])⟩
  · obtain ⟨n, ds, rfl, ha, g, q⟩ := h
    exact ⟨ds, seq_lst g, q, fun S' k => seq_lst (by rw [k n (lst_lt g) ha, g])⟩
theorem it_strong {p : P} {d : D} {l : List P} (h : RdT t S A B p d) (e : itemsC p = some l) : ∃ ds, seqOf d S = some ds ∧ Rds t S B l ds ∧ ∀ S', (∀ n, n < S.length → B n → S'[n]? = S[n]?) → seqOf d S' = some ds := by
  unfold itemsC at e
  split at e
  · cases e
  · cases p <;> first | cases e | skip
    · obtain ⟨ds, rfl, q⟩ := rTup h
      exact ⟨ds, rfl, q, fun _ _ => rfl⟩
    · unfold RdT Rd at h
      obtain ⟨n, ds, rfl, hb, g, q⟩ := h
      exact ⟨ds, seq_lst g, q, fun S' k => seq_lst (by rw [k n (lst_lt g) hb, g])⟩
    · rename_i h0; exact (h0 rfl).elim
theorem wv_seq (ha : SimE t s ns fa ga) : SimIW t s ns (wSeq fa) (wvSeq ga) := fun A B S env pe τ a T r => (ha A B S env pe τ a T r).bind fun x y S1 τ1 f1 T1 q1 => by
  cases hx : items x with
  | none => exact Sim1.none
  | some l =>
    obtain ⟨ds, e1, e2, e3⟩ := it_weak (a.fr f1.len) q1 hx
    rw [e1]
    exact Sim1.ret T1 ⟨e2, e3⟩
theorem wv_seqC (ha : SimE t s ns fa ga) : SimIS t s ns (wSeq fa) (wvSeqC ga) := fun A B S env pe τ a T r => (ha A B S env pe τ a T r).bind fun x y S1 τ1 f1 T1 q1 => by
  cases hx : itemsC x with
  | none => exact Sim1.none
  | some l =>
    obtain ⟨ds, e1, e2, e3⟩ := it_strong q1 hx
    rw [e1]
    exact Sim1.ret T1 ⟨e2, e3⟩
theorem rangeRd (lo : Int) (n : Nat) : Rds t S B (rangeP lo n) (rangeL lo n) := by
  unfold rangeP rangeL
  induction (List.range n) with
  | nil => exact Rds.nil
  | cons k l ih => exact Rds.cons mInt' ih
theorem range_sim {ps : List P} {ds : List D} {l : List P} (h : RdTs t S A B ps ds) (e : qRange ps = some l) : ∃ es, Rds t S B l es ∧ (match ds with
  | [.int j] => if RgB j then some (R.ok (Wk.mk (fun _ => True) (rangeL 0 j.toNat)), S) else none
  | [.int i, .int j] => if RgB i ∧ RgB j then some (.ok ⟨fun _ => True, rangeL i (j - i).toNat⟩, S) else none
  | _ => none) = some (R.ok ⟨fun _ => True, es⟩, S) := by
  unfold qRange at e
  split at e
  · split at e
    · rename_i hb
      cases e
      obtain ⟨d, rfl, q⟩ := rds1 h
      rw [rInt q]
      exact ⟨_, rangeRd _ _, if_pos hb⟩
    · cases e
  · split at e
    · rename_i hb
      cases e
      obtain ⟨d, d2, rfl, q, q2⟩ := rds2 h
      rw [rInt q, rInt q2]
      exact ⟨_, rangeRd _ _, if_pos hb⟩
    · cases e
  · cases e
theorem wv_range (hs : SimA t s ns fs gs) : SimIS t s ns (wRange fs) (wvRange gs) := fun A B S env pe τ a T r => (hs A B S env pe τ a T r).bind fun x y S1 τ1 f1 T1 q1 => by
  cases hx : qRange x with
  | none => exact Sim1.none
  | some l =>
    obtain ⟨es, e1, e2⟩ := range_sim q1 hx
    refine fun r τ' e => ?_
    cases e
    exact ⟨_, S1, e2, Fr.refl, T1, e1, fun _ _ => trivial⟩
theorem SimIS.w {f : Ev → Sto → Ans Wk} {g : PE → Tau → AP (List P)} (h : SimIS t s ns f g) : SimIW t s ns f g := fun A B S env pe τ a T r => (h A B S env pe τ a T r).imp fun _ _ _ _ q => ⟨q.1, fun S' k => q.2 S' fun n lt b => k n lt (a.sub n b)⟩
theorem wv_rev (ha : SimE t s ns fa ga) : SimIW t s ns (wRev fa) (wvRev ga) := fun A B S env pe τ a T r => (ha A B S env pe τ a T r).bind fun x y S1 τ1 f1 T1 q1 => by
  cases hx : items x with
  | none => exact Sim1.none
  | some l =>
    obtain ⟨ds, e1, e2, e3⟩ := it_weak (a.fr f1.len) q1 hx
    rw [e1]
    exact Sim1.ret T1 ⟨e2.reverse, e3⟩
theorem wv_revC (ha : SimE t s ns fa ga) : SimIS t s ns (wRev fa) (wvRevC ga) := fun A B S env pe τ a T r => (ha A B S env pe τ a T r).bind fun x y S1 τ1 f1 T1 q1 => by
  cases hx : itemsC x with
  | none => exact Sim1.none
  | some l =>
    obtain ⟨ds, e1, e2, e3⟩ := it_strong q1 hx
    rw [e1]
    exact Sim1.ret T1 ⟨e2.reverse, e3⟩
theorem charsRd (x : Str) : Rds t S B (charsP x) (x.cps.toList.map fun c => D.str ⟨#[c]⟩) := by
  unfold charsP
  induction x.cps.toList with
  | nil => exact Rds.nil
  | cons k l ih => exact Rds.cons mStr' ih
theorem wv_str (ha : SimE t s ns fa ga) : SimIS t s ns (wStr fa) (wvStr ga) := fun A B S env pe τ a T r => (ha A B S env pe τ a T r).bind fun x y S1 τ1 f1 T1 q1 => by
  cases x with
  | str x => rw [rStr q1]; exact Sim1.ret T1 ⟨charsRd x, fun _ _ => trivial⟩
  | _ => exact Sim1.none
theorem enumRd' : ∀ {l : List P} {ds : List D} (k : Nat), Rds t S B l ds → Rds t S B ((l.zipIdx k).map fun p => P.tup [.int p.2, p.1]) ((ds.zipIdx k).map fun p => D.tup [.int p.2, p.1])
  | [], _, k, q => by unfold Rds at q; subst q; exact Rds.nil
  | p :: l, _, k, q => by
    unfold Rds at q
    obtain ⟨d, r, rfl, q1, q2⟩ := q
    rw [List.zipIdx_cons, List.zipIdx_cons, List.map_cons, List.map_cons]
    exact Rds.cons (mTup' (Rds.cons mInt' (Rds.cons q1 Rds.nil))) (enumRd' (k + 1) q2)
theorem wv_enum (hs : SimA t s ns fs gs) : SimIW t s ns (wEnumA fs) (wvEnum gs) := fun A B S env pe τ a T r => (hs A B S env pe τ a T r).bind fun x y S1 τ1 f1 T1 q1 => by
  match x with
  | [p] =>
    obtain ⟨d, rfl, q⟩ := rds1 q1
    cases hx : items p with
    | none => simp only [qEnum, hx]; exact Sim1.none
    | some l =>
      obtain ⟨ds, e1, e2, e3⟩ := it_weak (a.fr f1.len) q hx
      simp only [qEnum, hx, e1]
      exact Sim1.ret T1 ⟨enumRd' 0 e2, e3⟩
  | [] => exact Sim1.none
  | _ :: _ :: _ => exact Sim1.none
theorem wv_enumC (hs : SimA t s ns fs gs) : SimIS t s ns (wEnumA fs) (wvEnumC gs) := fun A B S env pe τ a T r => (hs A B S env pe τ a T r).bind fun x y S1 τ1 f1 T1 q1 => by
  match x with
  | [p] =>
    obtain ⟨d, rfl, q⟩ := rds1 q1
    cases hx : itemsC p with
    | none => simp only [qEnumC, hx]; exact Sim1.none
    | some l =>
      obtain ⟨ds, e1, e2, e3⟩ := it_strong q hx
      simp only [qEnumC, hx, e1]
      exact Sim1.ret T1 ⟨enumRd' 0 e2, e3⟩
  | [] => exact Sim1.none
  | _ :: _ :: _ => exact Sim1.none
theorem zipRd : ∀ {l m : List P} {ds es : List D}, Rds t S B l ds → Rds t S B m es → Rds t S B (zipP l m) (zipD ds es)
  | [], _, _, _, q, _ => by unfold Rds at q; subst q; exact Rds.nil
  | p :: l, [], _, _, q, q' => by
    unfold Rds at q q'
    obtain ⟨d, r, rfl, q1, q2⟩ := q
    subst q'
    exact Rds.nil
  | p :: l, p' :: m, _, _, q, q' => by
    unfold Rds at q q'
    obtain ⟨d, r, rfl, q1, q2⟩ := q
    obtain ⟨d', r', rfl, q3, q4⟩ := q'
    exact Rds.cons (mTup' (Rds.cons q1 (Rds.cons q3 Rds.nil))) (zipRd q2 q4)
theorem isTup_sim {p : P} {d : D} (h : RdT t S A B p d) : isTup d = isTupP p := by
  cases p with
  | non => rw [rNon h]; rfl
  | bl _ => rw [rBl h]; rfl
  | int _ => rw [rInt h]; rfl
  | str _ => rw [rStr h]; rfl
  | tape => rw [rTape h]; rfl
  | tup _ => obtain ⟨_, rfl, _⟩ := rTup h; rfl
  | lst _ => obtain ⟨_, _, rfl, _⟩ := rLst h; rfl
  | own _ => obtain ⟨_, _, rfl, _⟩ := rOwn h; rfl
  | dct _ => obtain ⟨_, _, rfl, _⟩ := rDct h; rfl
  | ownd _ => obtain ⟨_, _, rfl, _⟩ := rOwnd h; rfl
  | rot _ => obtain ⟨_, _, rfl, _⟩ := rRot h; rfl
theorem wv_zip (hs : SimA t s ns fs gs) : SimIW t s ns (wZip fs) (wvZip gs) := fun A B S env pe τ a T r => (hs A B S env pe τ a T r).bind fun x y S1 τ1 f1 T1 q1 => by
  match x with
  | [p, p'] =>
    obtain ⟨d, d', rfl, q, q'⟩ := rds2 q1
    cases hx : items p with
    | none => simp only [qZip, hx]; exact Sim1.none
    | some l =>
      cases hy : items p' with
      | none => simp only [qZip, hx, hy]; exact Sim1.none
      | some m =>
        obtain ⟨ds, e1, e2, e3⟩ := it_weak (a.fr f1.len) q hx
        obtain ⟨es, g1, g2, g3⟩ := it_weak (a.fr f1.len) q' hy
        simp only [qZip, hx, hy, e1, g1, isTup_sim q, isTup_sim q']
        split
        · exact Sim1.ret T1 ⟨zipRd e2 g2, fun S' k => ⟨e3 S' k, g3 S' k⟩⟩
        · exact Sim1.none
  | [] => exact Sim1.none
  | [_] => exact Sim1.none
  | _ :: _ :: _ :: _ => exact Sim1.none
theorem wv_zipC (hs : SimA t s ns fs gs) : SimIS t s ns (wZip fs) (wvZipC gs) := fun A B S env pe τ a T r => (hs A B S env pe τ a T r).bind fun x y S1 τ1 f1 T1 q1 => by
  match x with
  | [p, p'] =>
    obtain ⟨d, d', rfl, q, q'⟩ := rds2 q1
    cases hx : itemsC p with
    | none => simp only [qZipC, hx]; exact Sim1.none
    | some l =>
      cases hy : itemsC p' with
      | none => simp only [qZipC, hx, hy]; exact Sim1.none
      | some m =>
        obtain ⟨ds, e1, e2, e3⟩ := it_strong q hx
        obtain ⟨es, g1, g2, g3⟩ := it_strong q' hy
        simp only [qZipC, hx, hy, e1, g1, isTup_sim q, isTup_sim q']
        split
        · exact Sim1.ret T1 ⟨zipRd e2 g2, fun S' k => ⟨e3 S' k, g3 S' k⟩⟩
        · exact Sim1.none
  | [] => exact Sim1.none
  | [_] => exact Sim1.none
  | _ :: _ :: _ :: _ => exact Sim1.none

/-! ### comprehensions -/
def lcV (tg : Tg) (gt : PE → Tau → AP Bool) (ge : PE → Tau → AP P) (pe : PE) : List P → Tau → Option (List P × Tau)
  | [], τ => some ([], τ)
  | x :: xs, τ => match putP tg x pe with
      | none => none
      | some pe1 => match gt pe1 τ with
        | some (.ok true, τ1) => match ge pe1 τ1 with
          | some (.ok y, τ2) => if y.isOwn = true then none else match lcV tg gt ge pe xs τ2 with
            | some (ys, τ3) => some (y :: ys, τ3)
            | none => none
          | _ => none
        | some (.ok false, τ1) => lcV tg gt ge pe xs τ1
        | _ => none
def wipeV (pe : PE) : List Nat → PE
  | [] => pe
  | v :: vs => (wipeV pe vs).set v none
def vTrue : PE → Tau → AP Bool := fun _ τ => some (.ok true, τ)
def vLc (gw : PE → Tau → AP (List P)) (tg : Tg) (gt : PE → Tau → AP Bool) (ge : PE → Tau → AP P) (vs : List Nat) : PE → Tau → AP P := fun pe τ => bindV (gw pe τ) fun l τ1 => if l.length ≤ sizeLine then match lcV tg gt ge (wipeV pe vs) l τ1 with
  | some (ps, τ2) => some (.ok (.lst ps), τ2)
  | none => none
  else none
theorem RelE.set {env : Ev} {pe : PE} (h : RelE t A B S env pe) (i : Nat) {p : P} {d : D} (q : Rd t S B p d) : RelE t A B S (env.set i (some d)) (pe.set i (some p)) := ⟨by simp [h.len], fun j x e => by
  rcases get_setS e with ⟨rfl, e, hl⟩ | ⟨ne, e⟩
  · cases e
    exact ⟨d, List.getElem?_set_self (by rw [h.len]; exact hl), .of q⟩
  · obtain ⟨d', h1, h2⟩ := h.slot j x e
    exact ⟨d', by rw [List.getElem?_set_ne (fun z => ne z.symm)]; exact h1, h2⟩⟩
theorem RelE.wipe {env : Ev} {pe : PE} (h : RelE t A B S env pe) : ∀ vs : List Nat, RelE t A B S (wipeE env vs) (wipeV pe vs)
  | [] => h
  | v :: vs => by
    have ih := RelE.wipe h vs
    refine ⟨by simp [wipeE, wipeV, ih.len], fun j x e => ?_⟩
    unfold wipeV at e
    rcases get_setS e with ⟨rfl, e, hl⟩ | ⟨ne, e⟩
    · cases e
    · obtain ⟨d', h1, h2⟩ := ih.slot j x e
      exact ⟨d', by unfold wipeE; rw [List.getElem?_set_ne (fun z => ne z.symm)]; exact h1, h2⟩
mutual
theorem putE : ∀ (tg : Tg) (p : P) (d : D) (env : Ev) (pe pe' : PE), RelE t A B S env pe → Rd t S B p d → putP tg p pe = some pe' → ∃ env', tg.put d env = some env' ∧ RelE t A B S env' pe'
  | .nm i, p, d, env, pe, pe', r, q, e => by
    unfold putP at e
    split at e
    · cases e
    · cases e
      exact ⟨_, rfl, r.set i q⟩
  | .tp l, p, d, env, pe, pe', r, q, e => by
    cases p <;> first | (simp [putP] at e; done) | skip
    unfold Rd at q
    obtain ⟨ds, rfl, q⟩ := q
    unfold putP at e
    exact putsE l _ ds env pe pe' r q e
theorem putsE : ∀ (tgs : List Tg) (ps : List P) (ds : List D) (env : Ev) (pe pe' : PE), RelE t A B S env pe → Rds t S B ps ds → putPs tgs ps pe = some pe' → ∃ env', Tg.puts tgs ds env = some env' ∧ RelE t A B S env' pe'
  | [], ps, ds, env, pe, pe', r, q, e => by
    cases ps with
    | nil =>
      unfold Rds at q
      subst q
      unfold putPs at e
      cases e
      exact ⟨env, rfl, r⟩
    | cons _ _ => simp [putPs] at e
  | tg :: tgs, ps, ds, env, pe, pe', r, q, e => by
    cases ps with
    | nil => simp [putPs] at e
    | cons p ps =>
      unfold Rds at q
      obtain ⟨d, ds', rfl, q1, q2⟩ := q
      unfold putPs at e
      split at e
      · rename_i pe1 h1
        obtain ⟨env1, k1, k2⟩ := putE tg p d env pe pe1 r q1 h1
        obtain ⟨env2, m1, m2⟩ := putsE tgs ps ds' env1 pe1 pe' k2 q2 e
        exact ⟨env2, by unfold Tg.puts; rw [k1]; exact m1, m2⟩
      · cases e
end
/-- the state within a comprehension: the new list at n -/
structure LcI (t s : Nat) (ns : List Int) (S1 : Sto) (A B : Nat → Prop) (n : Nat) (acc : List P) (S : Sto) (τ : Tau) : Prop where
  fr : Fr t S1 S
  at' : ∃ ds, S[n]? = some (.lst ds) ∧ Rds t S (fun m => B m ∧ m ≠ n) acc ds
  tp : TpOk t s ns S τ
theorem RelE.but {env : Ev} {pe : PE} {n : Nat} (h : RelE t A B S env pe) (hn : S.length ≤ n) : RelE t (fun m => A m ∧ m ≠ n) (fun m => B m ∧ m ≠ n) S env pe := ⟨h.len, fun j x e => by
  obtain ⟨d, h1, h2⟩ := h.slot j x e
  refine ⟨d, h1, ?_⟩
  have f : ∀ m ob, B m → S[m]? = some ob → (B m ∧ m ≠ n) ∧ S[m]? = some ob := fun m ob hb e => ⟨⟨hb, by have := lst_lt e; omega⟩, e⟩
  exact h2.map' (fun _ n' ob _ k2 k3 => ⟨⟨k2, by have := lst_lt k3; omega⟩, k3⟩) f⟩
theorem lc_sim {ok : Sto → Prop} {tg : Tg} {dt : Ev → Sto → Ans Bool} {de : Ev → Sto → Ans D} {gt : PE → Tau → AP Bool} {ge : PE → Tau → AP P} {env : Ev} {pe : PE} {S1 : Sto} (hsl : s < S1.length) (a : Adm t A B S1) (ht : SimT t s ns dt gt) (he : SimE t s ns de ge) (r : RelE t A B S1 env pe) (hok : ∀ S', (∀ n, n < S1.length → A n → S'[n]? = S1[n]?) → ok S') :
    ∀ (l : List P) (ds : List D) (acc : List P) (S : Sto) (τ : Tau) (ys : List P) (τ' : Tau), Rds t S1 B l ds → LcI t s ns S1 A B S1.length acc S τ → S1.length < S.length → acc.length + l.length ≤ sizeLine → lcV tg gt ge pe l τ = some (ys, τ') → ∃ S', lcD ok tg dt de env S1.length ds S = some S' ∧ LcI t s ns S1 A B S1.length (acc ++ ys) S' τ' ∧ S1.length < S'.length
  | [], ds, acc, S, τ, ys, τ', q, I, lt, hz, e => by
    unfold Rds at q
    subst q
    unfold lcV at e
    cases e
    refine ⟨S, ?_, by rw [List.append_nil]; exact I, lt⟩
    unfold lcD
    rw [if_pos (hok S fun n h1 h2 => I.fr.old n h1 (fun z => a.tape (z ▸ h2)))]
  | x :: l, ds, acc, S, τ, ys, τ', q, I, lt, hz, e => by
    unfold Rds at q
    obtain ⟨d, ds', rfl, q1, q2⟩ := q
    have okS : ok S := hok S fun n h1 h2 => I.fr.old n h1 (fun z => a.tape (z ▸ h2))
    have f0 : ∀ m ob, B m → S1[m]? = some ob → (B m ∧ m ≠ S1.length) ∧ S[m]? = some ob := fun m ob hb e => ⟨⟨hb, by have := lst_lt e; omega⟩, by rw [I.fr.old m (lst_lt e) (fun z => a.nt (z ▸ hb)), e]⟩
    have a0 : Adm t (fun m => A m ∧ m ≠ S1.length) (fun m => B m ∧ m ≠ S1.length) S := ⟨fun n h => ⟨a.new n (by omega), by omega⟩, fun n h => ⟨a.sub n h.1, h.2⟩, fun h => a.tape h.1⟩
    have r0 : RelE t (fun m => A m ∧ m ≠ S1.length) (fun m => B m ∧ m ≠ S1.length) S env pe := by
      have := r.but (Nat.le_refl S1.length)
      refine ⟨this.len, fun j z ez => ?_⟩
      obtain ⟨d, h1, h2⟩ := this.slot j z ez
      exact ⟨d, h1, h2.map' (fun _ n' ob _ k2 k3 => ⟨k2, by rw [I.fr.old n' (lst_lt k3) (fun z => a.tape (z ▸ k2.1)), k3]⟩) (fun m ob hb e => f0 m ob hb.1 e)⟩
    have q1' : Rd t S (fun m => B m ∧ m ≠ S1.length) x d := Rd.imp f0 _ _ q1
    unfold lcV at e
    cases hp : putP tg x pe with
    | none => rw [hp] at e; cases e
    | some pe1 =>
      rw [hp] at e
      simp only at e
      obtain ⟨env1, k1, k2⟩ := putE tg x d env pe pe1 r0 q1' hp
      unfold lcD
      rw [if_pos okS, k1]
      simp only
      split at e
      · rename_i τ1 hg
        obtain ⟨r1, S2, m1, f1, T1, z1⟩ := ht _ _ S env1 pe1 τ a0 I.tp k2 _ _ hg
        cases r1 with
        | ex _ => exact z1.elim
        | ok bb =>
          cases z1
          rw [m1]
          simp only
          split at e
          · rename_i y τ2 hy
            obtain ⟨r2, S3, m2, f2, T2, z2⟩ := he _ _ S2 env1 pe1 τ1 (a0.fr f1.len) T1 (k2.fr f1 a0) _ _ hy
            cases r2 with
            | ex _ => exact z2.elim
            | ok yd =>
              rw [m2]
              simp only
              split at e
              · cases e
              · rename_i no
                have no : y.isOwn = false := by simpa using no
                split at e
                · rename_i ys' τ3 hr
                  cases e
                  obtain ⟨es, g1, g2⟩ := I.at'
                  have nt : S1.length ≠ t := fun z => a.tape (a.sub t (z ▸ a.new _ (Nat.le_refl _)))
                  have g1' := f2.get nt (f1.get nt g1)
                  have g2' := f2.rds (a0.fr f1.len).nt (f1.rds a0.nt g2)
                  have z2' : Rd t S3 (fun m => B m ∧ m ≠ S1.length) y yd := RdT.rd z2 no
                  rw [g1']
                  simp only
                  have hlen := g2.len
                  rw [if_pos (by rw [List.length_cons] at hz; omega)]
                  have lt3 : S1.length < S3.length := Nat.lt_of_lt_of_le lt (Nat.le_trans f1.len f2.len)
                  have I' : LcI t s ns S1 A B S1.length (acc ++ [y]) (S3.set S1.length (.lst (es ++ [yd]))) τ2 := by
                    refine ⟨⟨by rw [List.length_set]; omega, fun m h1 h2 => ?_⟩, ⟨es ++ [yd], List.getElem?_set_self lt3, ?_⟩, ?_⟩
                    · rw [List.getElem?_set_ne (by omega), f2.old m (by have := f1.len; omega) h2, f1.old m (by omega) h2, I.fr.old m h1 h2]
                    · refine Rds.imp (fun m ob hb e => ⟨hb, ?_⟩) _ _ (g2'.app (Rds.cons z2' Rds.nil))
                      rw [List.getElem?_set_ne (fun z => hb.2 z.symm), e]
                    · exact T2.write nt (by omega)
                  obtain ⟨S', n1, n2, n3⟩ := lc_sim hsl a ht he r hok l ds' (acc ++ [y]) _ τ2 _ _ q2 I' (by rw [List.length_set]; exact lt3) (by rw [List.length_append, List.length_singleton]; rw [List.length_cons] at hz; omega) hr
                  exact ⟨S', n1, by rw [List.append_assoc] at n2; exact n2, n3⟩
                · cases e
          · cases e
      · rename_i τ1 hg
        obtain ⟨r1, S2, m1, f1, T1, z1⟩ := ht _ _ S env1 pe1 τ a0 I.tp k2 _ _ hg
        cases r1 with
        | ex _ => exact z1.elim
        | ok bb =>
          cases z1
          rw [m1]
          simp only
          obtain ⟨es, g1, g2⟩ := I.at'
          have nt : S1.length ≠ t := fun z => a.tape (a.sub t (z ▸ a.new _ (Nat.le_refl _)))
          exact lc_sim hsl a ht he r hok l ds' acc S2 τ1 ys τ' q2 ⟨I.fr.trans f1, ⟨es, f1.get nt g1, f1.rds a0.nt g2⟩, T1⟩ (Nat.lt_of_lt_of_le lt f1.len) (by rw [List.length_cons] at hz; omega) e
      · cases e
theorem v_lc {fw : Ev → Sto → Ans Wk} {gw : PE → Tau → AP (List P)} {dt : Ev → Sto → Ans Bool} {gt : PE → Tau → AP Bool} (tg : Tg) (vs : List Nat) (hw : SimIW t s ns fw gw) (ht : SimT t s ns dt gt) (he : SimE t s ns fa ga) : SimF t s ns (dLc fw tg dt fa vs) (vLc gw tg gt ga vs) := fun A B S env pe τ a T r =>
  (hw A B S env pe τ a T r).bind fun l w S1 τ1 f1 T1 q1 => by
    by_cases hz : l.length ≤ sizeLine
    · rw [if_pos hz]
      intro r2 τ' e
      cases hl : lcV tg gt ga (wipeV pe vs) l τ1 with
      | none => rw [hl] at e; cases e
      | some z =>
        obtain ⟨ys, τ2⟩ := z
        rw [hl] at e
        cases e
        have a1 := a.fr f1.len
        have nt : ∀ m, B m → m ≠ t := fun m hb z => a.nt (z ▸ hb)
        obtain ⟨S', k1, k2, k3⟩ := lc_sim (lst_lt T1.src) a1 ht he ((r.fr f1 a).wipe vs) (fun S' k => q1.2 S' k) l w.items [] (S1 ++ [.lst []]) τ1 ys _ q1.1 ⟨Fr.app _ _, ⟨[], get_last _ _, Rds.nil⟩, T1.app _⟩ (by simp) (by simpa using hz) hl
        obtain ⟨ds, g1, g2⟩ := k2.at'
        rw [List.nil_append] at g2
        refine ⟨.ok (.ref S1.length), S', by rw [k1], k2.fr, k2.tp, ys, S1.length, ds, rfl, rfl, f1.len, g1, g2⟩
    · rw [if_neg hz]
      exact Sim1.none
theorem vt_tr : SimT t s ns dTrue vTrue := vt_true
end
end VL
namespace VL
open PySem PySem.Spec PyProof.Rows L2 RT RZ DL

/-! ### dicts as values -/
def keyP : P → Option Key
  | .int i => some (.inl i)
  | .str x => some (.inr x)
  | _ => none
def kP : Key → P
  | .inl i => .int i
  | .inr x => .str x
@[simp] theorem keyP_int (i : Int) : keyP (.int i) = some (.inl i) := rfl
@[simp] theorem keyP_str (x : Str) : keyP (.str x) = some (.inr x) := rfl
@[simp] theorem keyP_kP (k : Key) : keyP (kP k) = some k := by cases k <;> rfl
def isK (k : Key) : P → Bool
  | .tup [a, _] => decide (keyP a = some k)
  | _ => false
def valK : P → P
  | .tup [_, v] => v
  | _ => .non
def withK (v : P) : P → P
  | .tup [a, _] => .tup [a, v]
  | e => e
def lookP (l : List P) (k : Key) : Option P := (l.find? (isK k)).map valK
def dputP (l : List P) (k : Key) (v : P) : List P := if l.any (isK k) = true then l.map (fun e => if isK k e = true then withK v e else e) else l ++ [.tup [kP k, v]]
mutual
def P.dd : P → Option D
  | .non => some .non
  | .bl b => some (.bl b)
  | .int i => some (.int i)
  | .str x => some (.str x)
  | .tup l => match P.dds l with
    | some ds => some (.tup ds)
    | none => none
  | _ => none
def P.dds : List P → Option (List D)
  | [] => some []
  | p :: ps => match P.dd p, P.dds ps with
    | some d, some ds => some (d :: ds)
    | _, _ => none
end
def missP (p : P) : Bool := match p.dd with
  | some d => missD d
  | none => false
def findP (l : List P) (p : P) : Option (Option P) := match keyP p with
  | some k => some (lookP l k)
  | none => if missP p = true then some none else none
def dctP : P → Option (List P)
  | .dct l => some l
  | .ownd l => some l
  | _ => none
def pInA (a b : P) : Option P := match dctP b with
  | some l => match findP l a with
    | some r => some (.bl r.isSome)
    | none => none
  | none => pIn a b
def pNotInA (a b : P) : Option P := match dctP b with
  | some l => match findP l a with
    | some r => some (.bl (!r.isSome))
    | none => none
  | none => pNotIn a b
def pIxD (a b : P) : Option P := match dctP a with
  | some l => match keyP b with
    | some k => lookP l k
    | none => none
  | none => none
/-- the keys -/
def keysP (l : List P) : List P := l.map fun e => match e with
  | .tup [a, _] => a
  | _ => .non
def qListD : List P → Option P
  | [d] => match dctP d with
    | some l => some (.lst (keysP l))
    | none => none
  | _ => none
def qLenD : List P → Option P
  | [d] => match dctP d with
    | some l => some (.int l.length)
    | none => none
  | _ => none
def pDGet : P → List P → Option P
  | a, [k] => match dctP a with
    | some l => match findP l k with
      | some r => some (r.getD .non)
      | none => none
    | none => none
  | a, [k, x] => if x.isOwn = true then none else match dctP a with
    | some l => match findP l k with
      | some r => some (r.getD x)
      | none => none
    | none => none
  | _, _ => none
section
variable {t : Nat} {S : Sto} {A B : Nat → Prop}
theorem key_sim {p : P} {d : D} (h : Rd t S B p d) : keyO d = keyP p := by
  cases p <;> unfold Rd at h
  · subst h; rfl
  · subst h; rfl
  · subst h; rfl
  · subst h; rfl
  · obtain ⟨_, rfl, _⟩ := h; rfl
  · obtain ⟨_, _, rfl, _⟩ := h; rfl
  · exact h.elim
  · obtain ⟨_, _, rfl, _⟩ := h; rfl
  · exact h.elim
  · obtain ⟨_, _, rfl, _⟩ := h; rfl
  · subst h; rfl
theorem key_simT {p : P} {d : D} (h : RdT t S A B p d) : keyO d = keyP p := by
  by_cases o : p.isOwn = true
  · obtain ⟨n, ob, rfl, _⟩ := h.ow o
    cases p <;> first | rfl | cases o
  · exact key_sim (h.rd (by simpa using o))
theorem ent_sim {p : P} {e : D × D} (h : Rd t S B p (prD e)) : ∃ a v, p = .tup [a, v] ∧ Rd t S B a e.1 ∧ Rd t S B v e.2 := by
  unfold prD at h
  cases p <;> unfold Rd at h
  · cases h
  · cases h
  · cases h
  · cases h
  · obtain ⟨ds, h0, q⟩ := h
    cases h0
    rename_i l
    match l, q with
    | [], q => unfold Rds at q; cases q
    | [a], q =>
      unfold Rds at q
      obtain ⟨_, _, h1, _, h2⟩ := q
      unfold Rds at h2
      subst h2
      cases h1
    | [a, v], q =>
      unfold Rds at q
      obtain ⟨_, _, h1, h2, h3⟩ := q
      cases h1
      unfold Rds at h3
      obtain ⟨_, _, h1, h4, h5⟩ := h3
      cases h1
      exact ⟨a, v, rfl, h2, h4⟩
    | a :: v :: w :: r, q =>
      unfold Rds at q
      obtain ⟨_, _, h1, h2, h3⟩ := q
      cases h1
      unfold Rds at h3
      obtain ⟨_, _, h1, h4, h5⟩ := h3
      cases h1
      unfold Rds at h5
      obtain ⟨_, _, h1, _⟩ := h5
      cases h1
  · obtain ⟨_, _, h0, _⟩ := h; cases h0
  · exact h.elim
  · obtain ⟨_, _, h0, _⟩ := h; cases h0
  · exact h.elim
  · obtain ⟨_, _, h0, _⟩ := h; cases h0
  · cases h
theorem ent_mk {a v : P} {e : D × D} (h1 : Rd t S B a e.1) (h2 : Rd t S B v e.2) : Rd t S B (.tup [a, v]) (prD e) := mTup' (Rds.cons h1 (Rds.cons h2 Rds.nil))
theorem isK_sim (k : Key) {p : P} {e : D × D} (h : Rd t S B p (prD e)) : isK k p = decide (keyO e.1 = some k) := by
  obtain ⟨a, v, rfl, h1, _⟩ := ent_sim h
  show decide (keyP a = some k) = _
  rw [key_sim h1]
theorem look_sim (k : Key) : ∀ {l : List P} {es : List (D × D)}, Rds t S B l (es.map prD) → match lookP l k with
    | some p => ∃ d, lookD es k = some d ∧ Rd t S B p d
    | none => lookD es k = none
  | [], es, q => by
    unfold Rds at q
    cases es with
    | nil => rfl
    | cons _ _ => cases q
  | p :: l, es, q => by
    unfold Rds at q
    obtain ⟨d, r, e0, q1, q2⟩ := q
    cases es with
    | nil => cases e0
    | cons e es =>
      cases e0
      have ih := look_sim k q2
      have hk := isK_sim k q1
      obtain ⟨a, v, rfl, h1, h2⟩ := ent_sim q1
      by_cases c : keyO e.1 = some k
      · have c' : isK k (.tup [a, v]) = true := by rw [hk]; exact decide_eq_true c
        have e1 : lookP (.tup [a, v] :: l) k = some v := by unfold lookP; rw [List.find?_cons, c']; rfl
        rw [e1]
        refine ⟨e.2, ?_, h2⟩
        unfold lookD
        rw [List.find?_cons, decide_eq_true c]
        rfl
      · have c' : isK k (.tup [a, v]) = false := by rw [hk]; exact decide_eq_false c
        have e1 : lookP (.tup [a, v] :: l) k = lookP l k := by unfold lookP; rw [List.find?_cons, c']
        have e2 : lookD (e :: es) k = lookD es k := by unfold lookD; rw [List.find?_cons, decide_eq_false c]
        rw [e1, e2]
        exact ih
theorem any_sim (k : Key) : ∀ {l : List P} {es : List (D × D)}, Rds t S B l (es.map prD) → (l.any (isK k)) = es.any fun e => decide (keyO e.1 = some k)
  | [], es, q => by
    unfold Rds at q
    cases es with
    | nil => rfl
    | cons _ _ => cases q
  | p :: l, es, q => by
    unfold Rds at q
    obtain ⟨d, r, e0, q1, q2⟩ := q
    cases es with
    | nil => cases e0
    | cons e es =>
      cases e0
      rw [List.any_cons, List.any_cons, any_sim k q2, isK_sim k q1]
theorem rd_kP (k : Key) : Rd t S B (kP k) (kD k) := by
  cases k with
  | inl i => exact mInt'
  | inr x => exact mStr'
theorem map_sim (k : Key) {v : P} {d : D} (h : Rd t S B v d) : ∀ {l : List P} {es : List (D × D)}, Rds t S B l (es.map prD) → Rds t S B (l.map fun e => if isK k e = true then withK v e else e) ((es.map fun e => if keyO e.1 = some k then (e.1, d) else e).map prD)
  | [], es, q => by
    unfold Rds at q
    cases es with
    | nil => exact Rds.nil
    | cons _ _ => cases q
  | p :: l, es, q => by
    unfold Rds at q
    obtain ⟨d', r, e0, q1, q2⟩ := q
    cases es with
    | nil => cases e0
    | cons e es =>
      cases e0
      have hk := isK_sim k q1
      simp only [List.map_cons]
      refine Rds.cons ?_ (map_sim k h q2)
      by_cases c : keyO e.1 = some k
      · rw [if_pos (by rw [hk]; exact decide_eq_true c), if_pos c]
        obtain ⟨a, w, rfl, h1, h2⟩ := ent_sim q1
        exact ent_mk h1 h
      · rw [if_neg (by rw [hk]; simpa using c), if_neg c]
        exact q1
theorem dput_sim (k : Key) {v : P} {d : D} (h : Rd t S B v d) {l : List P} {es : List (D × D)} (q : Rds t S B l (es.map prD)) : Rds t S B (dputP l k v) ((putD es k d).map prD) := by
  unfold dputP putD
  rw [any_sim k q]
  split
  · exact map_sim k h q
  · rw [List.map_append]
    exact q.app (Rds.cons (ent_mk (e := (kD k, d)) (rd_kP k) h) Rds.nil)
theorem len_sim {l : List P} {es : List (D × D)} (q : Rds t S B l (es.map prD)) : l.length = es.length := by
  have := q.len
  simpa using this
theorem keys_sim : ∀ {l : List P} {es : List (D × D)}, Rds t S B l (es.map prD) → Rds t S B (keysP l) (es.map (·.1))
  | [], es, q => by
    unfold Rds at q
    cases es with
    | nil => exact Rds.nil
    | cons _ _ => cases q
  | p :: l, es, q => by
    unfold Rds at q
    obtain ⟨d', r, e0, q1, q2⟩ := q
    cases es with
    | nil => cases e0
    | cons e es =>
      cases e0
      obtain ⟨a, w, rfl, h1, h2⟩ := ent_sim q1
      exact Rds.cons h1 (keys_sim q2)
mutual
theorem dd_sim : ∀ (p : P) (d d' : D), Rd t S B p d → p.dd = some d' → d = d'
  | .non, _, _, h, e => by unfold Rd at h; cases e; exact h
  | .bl _, _, _, h, e => by unfold Rd at h; cases e; exact h
  | .int _, _, _, h, e => by unfold Rd at h; cases e; exact h
  | .str _, _, _, h, e => by unfold Rd at h; cases e; exact h
  | .lst _, _, _, _, e => by cases e
  | .own _, _, _, _, e => by cases e
  | .dct _, _, _, _, e => by cases e
  | .ownd _, _, _, _, e => by cases e
  | .rot _, _, _, _, e => by cases e
  | .tape, _, _, _, e => by cases e
  | .tup l, d, d', h, e => by
    unfold Rd at h
    obtain ⟨ds, rfl, h⟩ := h
    simp only [P.dd] at e
    split at e
    · rename_i es he
      cases e
      rw [dds_sim l ds es h he]
    · cases e
theorem dds_sim : ∀ (p : List P) (d d' : List D), Rds t S B p d → P.dds p = some d' → d = d'
  | [], _, _, h, e => by unfold Rds at h; cases e; exact h
  | p :: ps, ds, x, h, e => by
    unfold Rds at h
    obtain ⟨d, r, rfl, h1, h2⟩ := h
    simp only [P.dds] at e
    split at e
    · rename_i a as ha has
      cases e
      rw [dd_sim p d a h1 ha, dds_sim ps r as h2 has]
    · cases e
end
def RdO (t : Nat) (S : Sto) (B : Nat → Prop) : Option P → Option D → Prop
  | some x, some y => Rd t S B x y
  | none, none => True
  | _, _ => False
theorem find_sim {p : P} {a : D} {l : List P} {es : List (D × D)} {r : Option P} (ra : RdT t S A B p a) (q : Rds t S B l (es.map prD)) (h : findP l p = some r) : ∃ r', findD es a = some r' ∧ RdO t S B r r' := by
  unfold findP at h
  unfold findD
  rw [key_simT ra]
  split at h
  · rename_i k hk
    cases h
    first | rw [hk] | skip
    have := look_sim k q
    refine ⟨lookD es k, rfl, ?_⟩
    split at this
    · rename_i x hx
      obtain ⟨d, h1, h2⟩ := this
      rw [hx, h1]
      exact h2
    · rename_i hx
      rw [hx, this]
      trivial
  · rename_i hk
    first | rw [hk] | skip
    split at h
    · rename_i hm
      cases h
      refine ⟨none, ?_, trivial⟩
      unfold missP at hm
      split at hm
      · rename_i d hd
        have no : p.isOwn = false := by cases p <;> first | rfl | cases hd
        rw [dd_sim p a d (ra.rd no) hd]
        exact if_pos hm
      · cases hm
    · cases h
theorem dct_sim {p : P} {a : D} {l : List P} (ra : RdT t S A B p a) (e : dctP p = some l) : ∃ n es, a = .ref n ∧ dctOf a S = some es ∧ Rds t S B l (es.map prD) := by
  cases p <;> first | cases e | skip
  · obtain ⟨n, es, rfl, h1, h2⟩ := rDct ra
    exact ⟨n, es, rfl, by simp only [dctOf, h1], h2⟩
  · obtain ⟨n, es, rfl, h1, h2⟩ := rOwnd ra
    exact ⟨n, es, rfl, by simp only [dctOf, h1], h2⟩
def P.isTp : P → Bool
  | .tape => true
  | _ => false
theorem noDct {p : P} {a : D} (ra : RdT t S A B p a) (e : dctP p = none) (tp : p.isTp = false) : dctOf a S = none := by
  cases p <;> first | (exfalso; cases e; done) | (exfalso; cases tp; done) | skip
  · rw [rNon ra]; rfl
  · rw [rBl ra]; rfl
  · rw [rInt ra]; rfl
  · rw [rStr ra]; rfl
  · obtain ⟨_, rfl, _⟩ := rTup ra; rfl
  · obtain ⟨_, _, rfl, h, _⟩ := rLst ra; simp only [dctOf, h]
  · obtain ⟨_, _, rfl, h, _⟩ := rOwn ra; simp only [dctOf, h]
  · obtain ⟨_, _, rfl, h, _⟩ := rRot ra; simp only [dctOf, h]
theorem ov_inA : OpV t gInA pInA := fun A B S p q r a b ad ra rb e => by
  unfold pInA at e
  split at e
  · rename_i l hl
    split at e
    · rename_i w hw
      cases e
      obtain ⟨n, es, rfl, h1, h2⟩ := dct_sim rb hl
      obtain ⟨r', h3, h4⟩ := find_sim ra h2 hw
      refine ⟨.bl w.isSome, [], same ?_, mBl'⟩
      unfold gInA
      simp only [h1, h3]
      cases w <;> cases r' <;> first | exact h4.elim | rfl
    · cases e
  · rename_i hl
    have tp : q.isTp = false := by
      cases q <;> first | rfl | skip
      exfalso
      revert e
      unfold pIn inP
      simp [items]
    unfold gInA
    rw [noDct rb hl tp]
    exact ov_in A B S p q r a b ad ra rb e
theorem ov_notinA : OpV t gNotInA pNotInA := fun A B S p q r a b ad ra rb e => by
  unfold pNotInA at e
  split at e
  · rename_i l hl
    split at e
    · rename_i w hw
      cases e
      obtain ⟨n, es, rfl, h1, h2⟩ := dct_sim rb hl
      obtain ⟨r', h3, h4⟩ := find_sim ra h2 hw
      refine ⟨.bl (!w.isSome), [], same ?_, mBl'⟩
      unfold gNotInA
      simp only [h1, h3]
      cases w <;> cases r' <;> first | exact h4.elim | rfl
    · cases e
  · rename_i hl
    have tp : q.isTp = false := by
      cases q <;> first | rfl | skip
      exfalso
      revert e
      unfold pNotIn inP
      simp [items]
    unfold gNotInA
    rw [noDct rb hl tp]
    exact ov_notin A B S p q r a b ad ra rb e
theorem ov_ixD : OpV t gIxD pIxD := fun A B S p q r a b ad ra rb e => by
  unfold pIxD at e
  split at e
  · rename_i l hl
    split at e
    · rename_i k hk
      obtain ⟨n, es, rfl, h1, h2⟩ := dct_sim ra hl
      have := look_sim k h2
      rw [e] at this
      obtain ⟨d, h3, h4⟩ := this
      refine ⟨d, [], same ?_, Rd.nil h4⟩
      unfold gIxD
      simp only [h1, key_simT rb, hk, h3]
    · cases e
  · cases e
theorem cv_listD : CallVF t cListD qListD := fun A B S ps l es ad h e => by
  unfold qListD at e
  split at e
  · obtain ⟨d, rfl, q⟩ := rds1 h
    split at e
    · rename_i w hw
      cases e
      obtain ⟨n, es', rfl, h1, h2⟩ := dct_sim q hw
      exact ⟨es'.map (·.1), by simp only [cListD, h1], keys_sim h2⟩
    · cases e
  · cases e
theorem ls_listD : Lsty qListD := fun a r e => by
  unfold qListD at e
  split at e
  · split at e
    · cases e; exact ⟨_, rfl⟩
    · cases e
  · cases e
theorem cv_lenD : CallV t cLenD qLenD := fun A B S ps r ds ad h e => by
  unfold qLenD at e
  split at e
  · obtain ⟨d, rfl, q⟩ := rds1 h
    split at e
    · rename_i w hw
      cases e
      obtain ⟨n, es', rfl, h1, h2⟩ := dct_sim q hw
      exact ⟨.int es'.length, [], same (by simp only [cLenD, h1]), by rw [len_sim h2]; exact mInt'⟩
    · cases e
  · cases e
end
/-! ### new dicts, methods, statements -/
def RdFd (t : Nat) (S0 : Sto) (B : Nat → Prop) (S : Sto) (p : P) (d : D) : Prop := ∃ l n es, p = .dct l ∧ d = .ref n ∧ S0.length ≤ n ∧ S[n]? = some (.dct es) ∧ Rds t S (fun m => B m ∧ m ≠ n) l (es.map prD)
def SimFd (t s : Nat) (ns : List Int) (f : Ev → Sto → Ans D) (g : PE → Tau → AP P) : Prop := ∀ A B S env pe τ, Adm t A B S → TpOk t s ns S τ → RelE t A B S env pe → Sim1 t s ns (RdFd t S B) B S (f env S) (g pe τ)
def vDNew : PE → Tau → AP P := fun _ τ => some (.ok (.dct []), τ)
def vAsgD (i : Nat) (ge : PE → Tau → AP P) : PE → Tau → AnsV := fun pe τ => bindSV (ge pe τ) pe fun p τ1 => match p with
  | .dct l => some (.nx, pe.set i (some (.ownd l)), τ1)
  | _ => none
def vDM (ga : PE → Tau → AP P) (gs : PE → Tau → AP (List P)) : PE → Tau → AP P := fun pe τ => bindV (ga pe τ) fun a τ1 => if (dctP a).isSome = true then bindV (gs pe τ1) fun ds τ2 => okV (pDGet a ds) τ2 else none
def vSetD (i : Nat) (ge gi : PE → Tau → AP P) : PE → Tau → AnsV := fun pe τ => bindSV (ge pe τ) pe fun p τ1 => match pe[i]? with
  | some (some (.ownd _)) => bindSV (gi pe τ1) pe fun k τ2 => if p.isOwn = true then none else match pe[i]? with
    | some (some (.ownd l)) => match keyP k with
      | some kk => if l.length < sizeLine then some (.nx, pe.set i (some (.ownd (dputP l kk p))), τ2) else none
      | none => none
    | _ => none
  | _ => none
/-- x.append(y.pop(..)) -/
def vAppPop (i j : Nat) (ge : PE → Tau → AP P) : PE → Tau → AnsV := fun pe τ => match pe[i]?, pe[j]? with
  | some (some (.own l)), some (some (.own m)) => bindSV (ge pe τ) pe fun k τ1 => match k with
    | .int k => if i ≠ j ∧ 0 ≤ k ∧ k ≤ 1000000000 ∧ l.length < sizeLine then match m[k.toNat]? with
      | some p => some (.nx, (pe.set j (some (.own (m.eraseIdx k.toNat)))).set i (some (.own (l ++ [p]))), τ1)
      | none => none
      else none
    | _ => none
  | _, _ => none
section
variable {t s : Nat} {ns : List Int} {b : Nat} {A B : Nat → Prop} {o o' : Ow} {S S' : Sto} {env env' : Ev} {pe pe' : PE} {τ τ' : Tau} {fa fe fi : Ev → Sto → Ans D} {ga ge gi : PE → Tau → AP P} {fs : Ev → Sto → Ans (List D)} {gs : PE → Tau → AP (List P)}
theorem RdFd.rd {S0 : Sto} {p : P} {d : D} (a : Adm t A B S0) (h : RdFd t S0 B S p d) : Rd t S B p d := by
  obtain ⟨l, n, ds, rfl, rfl, g, e, q⟩ := h
  unfold Rd
  exact ⟨n, ds, rfl, a.new n g, e, Rds.imp (fun n o b e => ⟨b.1, e⟩) _ _ q⟩
theorem SimFd.e {f : Ev → Sto → Ans D} {g : PE → Tau → AP P} (h : SimFd t s ns f g) : SimE t s ns f g := fun A B S env pe τ a T r => (h A B S env pe τ a T r).imp fun _ _ _ l q => .of (q.rd a)
theorem v_dnew : SimFd t s ns dDNew vDNew := fun A B S env pe τ a T r r1 τ' e => by
  cases e
  exact ⟨.ok (.ref S.length), S ++ [.dct []], rfl, Fr.app _ _, T.app _, [], S.length, [], rfl, rfl, Nat.le_refl _, get_last _ _, Rds.nil⟩
theorem vs_asgD (i : Nat) (he : SimFd t s ns fe ge) : SimS t s ns (sAsg (.nm i) fe) (vAsgD i ge) := fun b A o S env pe τ a T r r' pe' τ' e => by
  unfold vAsgD at e
  cases hg : ge pe τ with
  | none => rw [hg] at e; cases e
  | some q =>
    obtain ⟨r1, τ1⟩ := q
    obtain ⟨r1', S1, e1, f, T1, q1⟩ := he A _ S env pe τ (r.adm a) T r.e r1 τ1 hg
    rw [hg] at e
    cases r1 with
    | ex z =>
      cases e
      cases r1' with
      | ok _ => exact q1.elim
      | ex z' => exact ⟨.ex z', env, S1, o, by unfold sAsg; rw [e1]; rfl, f.stp o, T1, RdX.mono (fun n a => a.1) q1⟩
    | ok p =>
      cases r1' with
      | ex _ => exact q1.elim
      | ok d =>
        obtain ⟨l, n, ds, rfl, rfl, hn, e0, q⟩ := q1
        cases e
        have r2 := r.fr a f
        have fresh : ∀ j, o j ≠ some n := fun j z => by have := (r.own j n z).2.2; omega
        have adm := r.adm a
        refine ⟨.nx, _, S1, _, by unfold sAsg; rw [e1]; rfl, ⟨f.len, fun m x y z => f.old m x y, fun j m em => ?_⟩, T1, r2.setOwn (a.fr f.len) (po := .ownd l) (ob := .dct ds) fresh (Nat.le_trans a.bl hn) e0 q (fun j p hj d hd _ => ?_) i⟩
        · by_cases h : j = i
          · subst h; rw [setO_self] at em; cases em; exact .inr hn
          · rw [setO_ne h] at em; exact .inl ⟨j, em⟩
        · obtain ⟨d', h1, h2, _⟩ := r.slot j p hj
          rw [hd] at h1
          cases h1
          exact (h2.bd hn).map' (fun _ n ob _ k2 k3 => ⟨k2, f.get (fun z => a.tape (z ▸ k2)) k3⟩) (fun n ob k2 k3 => ⟨k2, f.get (fun z => adm.nt (z ▸ k2.1)) k3⟩)
theorem tyM_dct {d : D} {es : List (D × D)} (h : dctOf d S = some es) : tyM "dict" d S = true := by
  obtain ⟨n, rfl, hn⟩ := dct_ref h
  unfold tyM
  simp [hn]
theorem dget_sim {p r : P} {ps : List P} {a : D} {ds : List D} (ra : RdT t S A B p a) (h : RdTs t S A B ps ds) (e : pDGet p ps = some r) : ∃ d, mDGet a ds S = some (d, S) ∧ Rd t S B r d := by
  unfold pDGet at e
  split at e
  · obtain ⟨k, rfl, q⟩ := rds1 h
    split at e
    · rename_i l hl
      split at e
      · rename_i w hw
        cases e
        obtain ⟨n, es, rfl, h1, h2⟩ := dct_sim ra hl
        obtain ⟨r', h3, h4⟩ := find_sim q h2 hw
        refine ⟨r'.getD .non, by simp only [mDGet, h1, h3], ?_⟩
        cases w <;> cases r' <;> first | exact h4.elim | exact h4 | exact mNon'
      · cases e
    · cases e
  · obtain ⟨k, x, rfl, q, q2⟩ := rds2 h
    split at e
    · cases e
    · rename_i no
      split at e
      · rename_i l hl
        split at e
        · rename_i w hw
          cases e
          obtain ⟨n, es, rfl, h1, h2⟩ := dct_sim ra hl
          obtain ⟨r', h3, h4⟩ := find_sim q h2 hw
          refine ⟨r'.getD x, by simp only [mDGet, h1, h3], ?_⟩
          cases w <;> cases r' <;> first | exact h4.elim | exact h4 | exact q2.rd (by simpa using no)
        · cases e
      · cases e
  · cases e
theorem v_dm (ha : SimE t s ns fa ga) (hs : SimA t s ns fs gs) : SimE t s ns (dM "dict" mDGet fa fs) (vDM ga gs) := fun A B S env pe τ a T r => (ha A B S env pe τ a T r).bind fun x y S1 τ1 f1 T1 q1 => by
  cases hd : dctP x with
  | none => exact Sim1.none
  | some l =>
    obtain ⟨n, es, rfl, h1, h2⟩ := dct_sim q1 hd
    rw [if_pos (tyM_dct h1), if_pos (show (some l).isSome = true from rfl)]
    refine (hs A B S1 env pe τ1 (a.fr f1.len) T1 (r.fr f1 a)).bind fun x2 y2 S2 τ2 f2 T2 q2 => fun r τ' e => ?_
    cases hh : pDGet x x2 with
    | none => rw [hh] at e; cases e
    | some p =>
      rw [hh] at e
      cases e
      obtain ⟨d, e1, e2⟩ := dget_sim (f2.rdt (a.fr f1.len) q1) q2 hh
      exact ⟨.ok d, S2, by rw [e1]; rfl, Fr.refl, T2, .of e2⟩
theorem vs_setD (i : Nat) (he : SimE t s ns fe ge) (hi : SimE t s ns fi gi) : SimS t s ns (sSub gSetD fe (dVar i) fi) (vSetD i ge gi) := fun b A o S env pe τ a T r => by
  unfold vSetD sSub
  refine Sim2.bind (he A _ S env pe τ (r.adm a) T r.e) fun p d S1 τ1 f1 T1 q1 => ?_
  have r1 := r.fr a f1
  have a1 := a.fr f1.len
  cases h : pe[i]? with
  | none => exact Sim2.none
  | some q => cases q with
    | none => exact Sim2.none
    | some x => cases x with
      | ownd l =>
        obtain ⟨n, es, e1, e2, e3, e4, e5, e6⟩ := r1.owndAt a1 h
        have hv : dVar i env S1 = some (.ok (.ref n), S1) := by simp [e1]
        rw [hv, bindS_okE]
        refine Sim2.bind (hi A _ S1 env pe τ1 (r1.adm a1) T1 r1.e) fun k kd S2 τ2 f2 T2 q2 => ?_
        have r2 := r1.fr a1 f2
        have a2 := a1.fr f2.len
        by_cases no' : p.isOwn = true
        · rw [if_pos no']; exact Sim2.none
        · rw [if_neg no']
          have no : p.isOwn = false := by simpa using no'
          simp only
          cases hk : keyP k with
          | none => exact Sim2.none
          | some kk =>
            simp only
            by_cases hz : l.length < sizeLine
            · rw [if_pos hz]
              have e3' := f2.get e5 e3
              have e4' := f2.rds (r1.adm a1).nt e4
              have q1' := (f2.rdt (r1.adm a1) q1).rd no
              obtain ⟨r3, st⟩ := r2.write a2 h rfl e2 e3' (p' := .ownd (dputP l kk p)) (ob' := .dct (putD es kk d)) (dput_sim kk q1' e4')
              have hg : gSetD (.ref n) kd d S2 = some (S2.set n (.dct (putD es kk d))) := by
                unfold gSetD
                have hd : dctOf (.ref n) S2 = some es := by simp only [dctOf, e3']
                simp only [hd, key_simT q2, hk]
                rw [if_pos (by rw [← len_sim e4]; exact hz)]
              rw [hg]
              exact (Sim2.ret (r := .nx) (r' := .nx) (T2.write e5 e6) r3).stp st
            · rw [if_neg hz]; exact Sim2.none
      | _ => exact Sim2.none
theorem Rds.eraseIdx {ps : List P} {ds : List D} (h : Rds t S B ps ds) (k : Nat) : Rds t S B (ps.eraseIdx k) (ds.eraseIdx k) := by
  rw [List.eraseIdx_eq_take_drop_succ, List.eraseIdx_eq_take_drop_succ]
  exact (h.take _).app (h.drop _)
theorem vs_appPop (i j : Nat) (he : SimE t s ns fe ge) : SimS t s ns (sExpr (dM "list" mAppend (dVar i) (dCons (dM "list" mPopAt (dVar j) (dCons fe dNil)) dNil))) (vAppPop i j ge) := fun b A o S env pe τ a T r => by
  intro r' pe' τ' e
  unfold vAppPop at e
  split at e
  · rename_i l m hi hj
    obtain ⟨n, ds, e1, e2, e3, e4, e5, e6⟩ := r.ownAt a hi
    obtain ⟨n2, ds2, g1, g2, g3, g4, g5, g6⟩ := r.ownAt a hj
    have ty : tyM "list" (.ref n) S = true := by rw [E_tyM_list, seq_lst e3]; rfl
    have ty2 : tyM "list" (.ref n2) S = true := by rw [E_tyM_list, seq_lst g3]; rfl
    cases hg : ge pe τ with
    | none => rw [hg] at e; cases e
    | some q =>
      obtain ⟨r1, τ1⟩ := q
      obtain ⟨r1', S1, k1, f1, T1, q1⟩ := he A _ S env pe τ (r.adm a) T r.e r1 τ1 hg
      rw [hg] at e
      cases r1 with
      | ex z =>
        cases e
        cases r1' with
        | ok _ => exact q1.elim
        | ex z' => exact ⟨.ex z', env, S1, o, by simp [e1, g1, seq_lst e3, seq_lst g3, k1], f1.stp o, T1, RdX.mono (fun n a => a.1) q1⟩
      | ok p =>
        cases r1' with
        | ex _ => exact q1.elim
        | ok d =>
          simp only [bindSV] at e
          cases p <;> first | (cases e; done) | skip
          rename_i k
          have : d = .int k := rInt (show RdT t S1 A (Av A o) (.int k) d from q1)
          subst this
          simp only at e
          split at e
          · rename_i hz
            split at e
            · rename_i w hw
              cases e
              have r2 := r.fr a f1
              have a2 := a.fr f1.len
              have g3' := f1.get g5 g3
              have g4' := f1.rds (r.adm a).nt g4
              obtain ⟨dw, hdw, rw'⟩ := g4'.get hw
              obtain ⟨r3, st⟩ := r2.write a2 hj rfl g2 g3' (p' := .own (m.eraseIdx k.toNat)) (ob' := .lst (ds2.eraseIdx k.toNat)) (g4'.eraseIdx _)
              have nn : n ≠ n2 := fun z => hz.1 (r.inj i j n e2 (by rw [z]; exact g2))
              have e3' : (S1.set n2 (.lst (ds2.eraseIdx k.toNat)))[n]? = some (.lst ds) := by rw [List.getElem?_set_ne (fun z => nn z.symm)]; exact f1.get e5 e3
              have e4' := st.rds a.tape (f1.rds (r.adm a).nt e4)
              have hi' : (pe.set j (some (.own (m.eraseIdx k.toNat))))[i]? = some (some (.own l)) := by rw [List.getElem?_set_ne (fun z => hz.1 z.symm)]; exact hi
              obtain ⟨r4, st2⟩ := r3.write (a2.fr st.len) hi' rfl e2 e3' (p' := .own (l ++ [w])) (ob' := .lst (ds ++ [dw])) (e4'.app (Rds.cons (st.rd a.tape rw') Rds.nil))
              refine ⟨.nx, env, _, o, ?_, ((f1.stp o).trans st).trans st2, (T1.write g5 g6).write e5 e6, r4⟩
              have hp : mPopAt (.ref n2) [.int k] S1 = some (dw, S1.set n2 (.lst (ds2.eraseIdx k.toNat))) := by
                unfold mPopAt
                simp only [g3']
                rw [if_pos ⟨hz.2.1, Int.lt_of_le_of_lt hz.2.2.1 (by decide)⟩, hdw]
              simp [e1, g1, seq_lst e3, seq_lst g3, k1, hp, e3', ← e4.len, hz.2.2.2]
            · cases e
          · cases e
  · cases e
end

/-! ### comprehensions with two fors -/
def lcV2 (tg : Tg) (gt : PE → Tau → AP Bool) (gw1 : PE → Tau → AP (List P)) (tg1 : Tg) (gt1 : PE → Tau → AP Bool) (ge : PE → Tau → AP P) (vs1 : List Nat) (pe : PE) : List P → Nat → Tau → Option (List P × Tau)
  | [], _, τ => some ([], τ)
  | x :: xs, k, τ => match putP tg x pe with
      | none => none
      | some pe1 => match gt pe1 τ with
        | some (.ok true, τ1) => match gw1 pe1 τ1 with
          | some (.ok l1, τ2) => if k + l1.length ≤ sizeLine then match lcV tg1 gt1 ge (wipeV pe1 vs1) l1 τ2 with
            | some (ys, τ3) => match lcV2 tg gt gw1 tg1 gt1 ge vs1 pe xs (k + ys.length) τ3 with
              | some (zs, τ4) => some (ys ++ zs, τ4)
              | none => none
            | none => none
            else none
          | _ => none
        | some (.ok false, τ1) => lcV2 tg gt gw1 tg1 gt1 ge vs1 pe xs k τ1
        | _ => none
def vLc2 (gw : PE → Tau → AP (List P)) (tg : Tg) (gt : PE → Tau → AP Bool) (gw1 : PE → Tau → AP (List P)) (tg1 : Tg) (gt1 : PE → Tau → AP Bool) (ge : PE → Tau → AP P) (vs vs1 : List Nat) : PE → Tau → AP P := fun pe τ => bindV (gw pe τ) fun l τ1 => match lcV2 tg gt gw1 tg1 gt1 ge vs1 (wipeV pe vs) l 0 τ1 with
  | some (ps, τ2) => some (.ok (.lst ps), τ2)
  | none => none
/-- the state within a comprehension: the list at n, the base S1 -/
structure LcG (t s : Nat) (ns : List Int) (S1 : Sto) (B : Nat → Prop) (n : Nat) (acc : List P) (S : Sto) (τ : Tau) : Prop where
  len : S1.length ≤ S.length
  old : ∀ m, m < S1.length → m ≠ t → m ≠ n → S[m]? = S1[m]?
  at' : ∃ ds, S[n]? = some (.lst ds) ∧ Rds t S B acc ds
  tp : TpOk t s ns S τ
section
variable {t s : Nat} {ns : List Int} {A B : Nat → Prop} {n : Nat} {S1 : Sto}
theorem LcG.rdt {acc : List P} {S : Sto} {τ : Tau} (I : LcG t s ns S1 B n acc S τ) (a : Adm t A B S1) (nA : ¬ A n) {p : P} {d : D} (h : RdT t S1 A B p d) : RdT t S A B p d :=
  h.map' (fun _ m ob _ x e => ⟨x, by rw [I.old m (lst_lt e) (fun z => a.tape (z ▸ x)) (fun z => nA (z ▸ x)), e]⟩) (fun m ob b e => ⟨b, by rw [I.old m (lst_lt e) (fun z => a.nt (z ▸ b)) (fun z => nA (a.sub n (z ▸ b))), e]⟩)
theorem LcG.rds {acc : List P} {S : Sto} {τ : Tau} (I : LcG t s ns S1 B n acc S τ) (a : Adm t A B S1) (nA : ¬ A n) {p : List P} {d : List D} (h : Rds t S1 B p d) : Rds t S B p d :=
  Rds.imp (fun m ob b e => ⟨b, by rw [I.old m (lst_lt e) (fun z => a.nt (z ▸ b)) (fun z => nA (a.sub n (z ▸ b))), e]⟩) _ _ h
theorem LcG.rele {acc : List P} {S : Sto} {τ : Tau} {env : Ev} {pe : PE} (I : LcG t s ns S1 B n acc S τ) (a : Adm t A B S1) (nA : ¬ A n) (h : RelE t A B S1 env pe) : RelE t A B S env pe := ⟨h.len, fun i p e => by
  obtain ⟨d, h1, h2⟩ := h.slot i p e
  exact ⟨d, h1, I.rdt a nA h2⟩⟩
theorem LcG.fr {acc : List P} {S S' : Sto} {τ τ' : Tau} (I : LcG t s ns S1 B n acc S τ) (nB : ¬ B t) (nt : n ≠ t) (f : Fr t S S') (T : TpOk t s ns S' τ') : LcG t s ns S1 B n acc S' τ' := ⟨Nat.le_trans I.len f.len, fun m h1 h2 h3 => by rw [f.old m (Nat.lt_of_lt_of_le h1 I.len) h2, I.old m h1 h2 h3], by
  obtain ⟨ds, g1, g2⟩ := I.at'
  exact ⟨ds, f.get nt g1, f.rds nB g2⟩, T⟩
theorem lc_simG {ok : Sto → Prop} {tg : Tg} {dt : Ev → Sto → Ans Bool} {de : Ev → Sto → Ans D} {gt : PE → Tau → AP Bool} {ge : PE → Tau → AP P} {env : Ev} {pe : PE} (nt : n ≠ t) (nS : n ≠ s) (a : Adm t A B S1) (nA : ¬ A n) (ht : SimT t s ns dt gt) (he : SimE t s ns de ge) (r : RelE t A B S1 env pe) (hok : ∀ S', (∀ m, m < S1.length → A m → S'[m]? = S1[m]?) → ok S') :
    ∀ (l : List P) (ds : List D) (acc : List P) (S : Sto) (τ : Tau) (ys : List P) (τ' : Tau), Rds t S1 B l ds → LcG t s ns S1 B n acc S τ → acc.length + l.length ≤ sizeLine → lcV tg gt ge pe l τ = some (ys, τ') → ∃ S', lcD ok tg dt de env n ds S = some S' ∧ LcG t s ns S1 B n (acc ++ ys) S' τ' ∧ ys.length ≤ l.length
  | [], ds, acc, S, τ, ys, τ', q, I, hz, e => by
    unfold Rds at q
    subst q
    unfold lcV at e
    cases e
    refine ⟨S, ?_, by rw [List.append_nil]; exact I, Nat.le_refl _⟩
    unfold lcD
    rw [if_pos (hok S fun m h1 h2 => I.old m h1 (fun z => a.tape (z ▸ h2)) (fun z => nA (z ▸ h2)))]
  | x :: l, ds, acc, S, τ, ys, τ', q, I, hz, e => by
    unfold Rds at q
    obtain ⟨d, ds', rfl, q1, q2⟩ := q
    have okS : ok S := hok S fun m h1 h2 => I.old m h1 (fun z => a.tape (z ▸ h2)) (fun z => nA (z ▸ h2))
    have a0 : Adm t A B S := a.fr I.len
    have r0 := I.rele a nA r
    have q1' : Rd t S B x d := (I.rdt a nA (.of q1)).rd (by cases x <;> first | rfl | (unfold Rd at q1; exact q1.elim))
    unfold lcV at e
    cases hp : putP tg x pe with
    | none => rw [hp] at e; cases e
    | some pe1 =>
      rw [hp] at e
      simp only at e
      obtain ⟨env1, k1, k2⟩ := putE tg x d env pe pe1 r0 q1' hp
      unfold lcD
      rw [if_pos okS, k1]
      simp only
      split at e
      · rename_i τ1 hg
        obtain ⟨r1, S2, m1, f1, T1, z1⟩ := ht _ _ S env1 pe1 τ a0 I.tp k2 _ _ hg
        cases r1 with
        | ex _ => exact z1.elim
        | ok bb =>
          cases z1
          rw [m1]
          simp only
          split at e
          · rename_i y τ2 hy
            obtain ⟨r2, S3, m2, f2, T2, z2⟩ := he _ _ S2 env1 pe1 τ1 (a0.fr f1.len) T1 (k2.fr f1 a0) _ _ hy
            cases r2 with
            | ex _ => exact z2.elim
            | ok yd =>
              rw [m2]
              simp only
              split at e
              · cases e
              · rename_i no
                have no : y.isOwn = false := by simpa using no
                split at e
                · rename_i ys' τ3 hr
                  cases e
                  have I3 := (I.fr a.nt nt f1 T1).fr a.nt nt f2 T2
                  obtain ⟨es, g1, g2⟩ := I3.at'
                  have z2' : Rd t S3 B y yd := RdT.rd z2 no
                  rw [g1]
                  simp only
                  have hlen := g2.len
                  rw [if_pos (by rw [List.length_cons] at hz; omega)]
                  have nB : ¬ B n := fun z => nA (a.sub n z)
                  have I' : LcG t s ns S1 B n (acc ++ [y]) (S3.set n (.lst (es ++ [yd]))) τ2 := by
                    refine ⟨by rw [List.length_set]; exact I3.len, fun m h1 h2 h3 => ?_, ⟨es ++ [yd], List.getElem?_set_self (lst_lt g1), ?_⟩, T2.write nt nS⟩
                    · rw [List.getElem?_set_ne (fun z => h3 z.symm), I3.old m h1 h2 h3]
                    · exact Rds.imp (fun m ob hb e => ⟨hb, by rw [List.getElem?_set_ne (by rintro rfl; exact nB hb), e]⟩) _ _ (g2.app (Rds.cons z2' Rds.nil))
                  obtain ⟨S', n1, n2, n3⟩ := lc_simG nt nS a nA ht he r hok l ds' (acc ++ [y]) _ τ2 _ _ q2 I' (by rw [List.length_append, List.length_singleton]; rw [List.length_cons] at hz; omega) hr
                  exact ⟨S', n1, by rw [List.append_assoc] at n2; exact n2, by simp; omega⟩
                · cases e
          · cases e
      · rename_i τ1 hg
        obtain ⟨r1, S2, m1, f1, T1, z1⟩ := ht _ _ S env1 pe1 τ a0 I.tp k2 _ _ hg
        cases r1 with
        | ex _ => exact z1.elim
        | ok bb =>
          cases z1
          rw [m1]
          simp only
          obtain ⟨S', n1, n2, n3⟩ := lc_simG nt nS a nA ht he r hok l ds' acc S2 τ1 ys τ' q2 (I.fr a.nt nt f1 T1) (by rw [List.length_cons] at hz; omega) e
          exact ⟨S', n1, n2, by rw [List.length_cons]; omega⟩
      · cases e
theorem lc2_sim {ok : Sto → Prop} {tg tg1 : Tg} {dt dt1 : Ev → Sto → Ans Bool} {dw1 : Ev → Sto → Ans Wk} {de : Ev → Sto → Ans D} {gt gt1 : PE → Tau → AP Bool} {gw1 : PE → Tau → AP (List P)} {ge : PE → Tau → AP P} {vs1 : List Nat} {env : Ev} {pe : PE} (nt : n ≠ t) (nS : n ≠ s) (a : Adm t A B S1) (nA : ¬ A n) (ht : SimT t s ns dt gt) (hw1 : SimIW t s ns dw1 gw1) (ht1 : SimT t s ns dt1 gt1) (he : SimE t s ns de ge) (r : RelE t A B S1 env pe) (hok : ∀ S', (∀ m, m < S1.length → A m → S'[m]? = S1[m]?) → ok S') :
    ∀ (l : List P) (ds : List D) (acc : List P) (S : Sto) (τ : Tau) (ys : List P) (τ' : Tau), Rds t S1 B l ds → LcG t s ns S1 B n acc S τ → lcV2 tg gt gw1 tg1 gt1 ge vs1 pe l acc.length τ = some (ys, τ') → ∃ S', lcD2 ok tg dt dw1 tg1 dt1 de vs1 env n ds S = some S' ∧ LcG t s ns S1 B n (acc ++ ys) S' τ'
  | [], ds, acc, S, τ, ys, τ', q, I, e => by
    unfold Rds at q
    subst q
    unfold lcV2 at e
    cases e
    refine ⟨S, ?_, by rw [List.append_nil]; exact I⟩
    unfold lcD2
    rw [if_pos (hok S fun m h1 h2 => I.old m h1 (fun z => a.tape (z ▸ h2)) (fun z => nA (z ▸ h2)))]
  | x :: l, ds, acc, S, τ, ys, τ', q, I, e => by
    unfold Rds at q
    obtain ⟨d, ds', rfl, q1, q2⟩ := q
    have okS : ok S := hok S fun m h1 h2 => I.old m h1 (fun z => a.tape (z ▸ h2)) (fun z => nA (z ▸ h2))
    have a0 : Adm t A B S := a.fr I.len
    have r0 := I.rele a nA r
    have q1' : Rd t S B x d := (I.rdt a nA (.of q1)).rd (by cases x <;> first | rfl | (unfold Rd at q1; exact q1.elim))
    unfold lcV2 at e
    cases hp : putP tg x pe with
    | none => rw [hp] at e; cases e
    | some pe1 =>
      rw [hp] at e
      simp only at e
      obtain ⟨env1, k1, k2⟩ := putE tg x d env pe pe1 r0 q1' hp
      unfold lcD2
      rw [if_pos okS, k1]
      simp only
      split at e
      · rename_i τ1 hg
        obtain ⟨r1, S2, m1, f1, T1, z1⟩ := ht _ _ S env1 pe1 τ a0 I.tp k2 _ _ hg
        cases r1 with
        | ex _ => exact z1.elim
        | ok bb =>
          cases z1
          rw [m1]
          simp only
          split at e
          · rename_i l1 τ2 hy
            obtain ⟨r2, S3, m2, f2, T2, z2⟩ := hw1 _ _ S2 env1 pe1 τ1 (a0.fr f1.len) T1 (k2.fr f1 a0) _ _ hy
            cases r2 with
            | ex _ => exact z2.elim
            | ok w1 =>
              rw [m2]
              simp only
              split at e
              · rename_i hz
                split at e
                · rename_i ys1 τ3 hl1
                  have a3 := (a0.fr f1.len).fr f2.len
                  have I3 := (I.fr a.nt nt f1 T1).fr a.nt nt f2 T2
                  have r3 : RelE t A B S3 env1 pe1 := (k2.fr f1 a0).fr f2 (a0.fr f1.len)
                  obtain ⟨S4, n1, n2, n3⟩ := lc_simG (S1 := S3) nt nS a3 nA ht1 he (r3.wipe vs1) z2.2 l1 w1.items acc S3 τ2 ys1 τ3 z2.1 ⟨Nat.le_refl _, fun _ _ _ _ => rfl, I3.at', T2⟩ hz hl1
                  rw [n1]
                  simp only
                  split at e
                  · rename_i zs τ4 hr
                    cases e
                    have I4 : LcG t s ns S1 B n (acc ++ ys1) S4 τ3 := ⟨Nat.le_trans I3.len n2.len, fun m h1 h2 h3 => by rw [n2.old m (Nat.lt_of_lt_of_le h1 I3.len) h2 h3, I3.old m h1 h2 h3], n2.at', n2.tp⟩
                    obtain ⟨S', p1, p2⟩ := lc2_sim nt nS a nA ht hw1 ht1 he r hok l ds' (acc ++ ys1) S4 τ3 zs τ' q2 I4 (by rw [List.length_append]; exact hr)
                    exact ⟨S', p1, by rw [List.append_assoc] at p2; exact p2⟩
                  · cases e
                · cases e
              · cases e
          · cases e
      · rename_i τ1 hg
        obtain ⟨r1, S2, m1, f1, T1, z1⟩ := ht _ _ S env1 pe1 τ a0 I.tp k2 _ _ hg
        cases r1 with
        | ex _ => exact z1.elim
        | ok bb =>
          cases z1
          rw [m1]
          simp only
          exact lc2_sim nt nS a nA ht hw1 ht1 he r hok l ds' acc S2 τ1 ys τ' q2 (I.fr a.nt nt f1 T1) e
      · cases e
theorem v_lc2 {fw fw1 : Ev → Sto → Ans Wk} {gw gw1 : PE → Tau → AP (List P)} {dt dt1 : Ev → Sto → Ans Bool} {gt gt1 : PE → Tau → AP Bool} {fa : Ev → Sto → Ans D} {ga : PE → Tau → AP P} (tg tg1 : Tg) (vs vs1 : List Nat) (hw : SimIW t s ns fw gw) (ht : SimT t s ns dt gt) (hw1 : SimIW t s ns fw1 gw1) (ht1 : SimT t s ns dt1 gt1) (he : SimE t s ns fa ga) : SimF t s ns (dLc2 fw tg dt fw1 tg1 dt1 fa vs vs1) (vLc2 gw tg gt gw1 tg1 gt1 ga vs vs1) := fun A B S env pe τ a T r =>
  (hw A B S env pe τ a T r).bind fun l w S1 τ1 f1 T1 q1 => by
    intro r2 τ' e
    cases hl : lcV2 tg gt gw1 tg1 gt1 ga vs1 (wipeV pe vs) l 0 τ1 with
    | none => rw [hl] at e; cases e
    | some z =>
      obtain ⟨ys, τ2⟩ := z
      rw [hl] at e
      cases e
      have a1 := a.fr f1.len
      have r1 := (r.fr f1 a).wipe vs
      have f0 : ∀ m ob, B m → S1[m]? = some ob → (B m ∧ m ≠ S1.length) ∧ (S1 ++ [O.lst []])[m]? = some ob := fun m ob hb e => ⟨⟨hb, by have := lst_lt e; omega⟩, get_old e⟩
      have g0 : ∀ m ob, A m → S1[m]? = some ob → (A m ∧ m ≠ S1.length) ∧ (S1 ++ [O.lst []])[m]? = some ob := fun m ob hb e => ⟨⟨hb, by have := lst_lt e; omega⟩, get_old e⟩
      have a0 : Adm t (fun m => A m ∧ m ≠ S1.length) (fun m => B m ∧ m ≠ S1.length) (S1 ++ [O.lst []]) := ⟨fun n h => by
        have h : S1.length + 1 ≤ n := by simpa using h
        exact ⟨a1.new n (by omega), by omega⟩, fun n h => ⟨a.sub n h.1, h.2⟩, fun h => a.tape h.1⟩
      have r0 : RelE t (fun m => A m ∧ m ≠ S1.length) (fun m => B m ∧ m ≠ S1.length) (S1 ++ [O.lst []]) (wipeE env vs) (wipeV pe vs) := ⟨r1.len, fun j z ez => by
        obtain ⟨d, h1, h2⟩ := r1.slot j z ez
        exact ⟨d, h1, h2.map' (fun _ n ob _ k2 k3 => g0 n ob k2 k3) f0⟩⟩
      have nt : S1.length ≠ t := fun z => by have := T1.lt; omega
      have nS : S1.length ≠ s := fun z => by have := lst_lt T1.src; omega
      obtain ⟨S', k1, k2⟩ := lc2_sim (n := S1.length) (S1 := S1 ++ [O.lst []]) nt nS a0 (fun h => h.2 rfl) ht hw1 ht1 he r0 (ok := w.ok) (fun S' k => q1.2 S' fun m h1 h2 => by
        rw [k m (by simp; omega) ⟨h2, by omega⟩, List.getElem?_append_left h1]) l w.items [] (S1 ++ [.lst []]) τ1 ys _ (Rds.imp f0 _ _ q1.1) ⟨Nat.le_refl _, fun _ _ _ _ => rfl, ⟨[], get_last _ _, Rds.nil⟩, T1.app _⟩ hl
      obtain ⟨ds, g1, g2⟩ := k2.at'
      rw [List.nil_append] at g2
      refine ⟨.ok (.ref S1.length), S', by rw [k1], ⟨by have := k2.len; simp at this; omega, fun m h1 h2 => by rw [k2.old m (by simp; omega) h2 (by omega), List.getElem?_append_left h1]⟩, k2.tp, ys, S1.length, ds, rfl, rfl, f1.len, g1, g2⟩
end
end VL
namespace VL
open PySem PySem.Spec PyProof.Rows L2 RT RZ DL
/-! ### tuples whose object is known, dict(..) of pairs, displays -/
def qTupleX : List P → Option P
  | [p] => match lstOf p with
    | some l => some (.rot l)
    | none => none
  | _ => none
def rotP : P → Option (List P)
  | .rot l => some l
  | _ => none
def wvSeqX (fe : PE → Tau → AP P) : PE → Tau → AP (List P) := fun pe τ => bindV (fe pe τ) fun d τ1 => okV (rotP d) τ1
def isPr : P → Bool
  | .tup [k, _] => (keyP k).isSome
  | _ => false
def putE' (acc : List P) : P → List P
  | .tup [k, v] => match keyP k with
    | some kk => dputP acc kk v
    | none => acc
  | _ => acc
def mergeP (acc l : List P) : List P := l.foldl putE' acc
def qDictX : List P → Option P
  | [p] => match rotP p with
    | some l => if l.all isPr = true then some (.dct (mergeP [] l)) else none
    | none => none
  | _ => none
def pDZip (a b : P) : Option P := match a, b with
  | .tup xs, .tup ys => if (zipP xs ys).all isPr = true then some (.dct (mergeP [] (zipP xs ys))) else none
  | _, _ => none
def vPairs : List ((PE → Tau → AP P) × (PE → Tau → AP P)) → PE → Tau → AP (List P)
  | [], _, τ => some (.ok [], τ)
  | p :: r, pe, τ => bindV (p.1 pe τ) fun k τ1 => bindV (p.2 pe τ1) fun v τ2 => if k.isOwn = true ∨ v.isOwn = true then none else bindV (vPairs r pe τ2) fun l τ3 => some (.ok (.tup [k, v] :: l), τ3)
def vDisp (gs : List ((PE → Tau → AP P) × (PE → Tau → AP P))) : PE → Tau → AP P := fun pe τ => bindV (vPairs gs pe τ) fun l τ1 => if l.all isPr = true ∧ l.length ≤ 15 then some (.ok (.dct (mergeP [] l)), τ1) else none
section
variable {t s : Nat} {ns : List Int} {S : Sto} {A B : Nat → Prop} {fa : Ev → Sto → Ans D} {ga : PE → Tau → AP P}
theorem Rds.rot {l : List P} {ds : List D} (a : Adm t A B S) (h : Rds t S B l ds) : Rd t (S ++ [.rot ds]) B (.rot l) (.ref S.length) := by
  unfold Rd
  exact ⟨S.length, ds, rfl, a.new _ (Nat.le_refl _), get_last _ _, Rds.imp (fun n o b e => ⟨b, get_old e⟩) _ _ h⟩
theorem Rds.dct {l : List P} {es : List (D × D)} (a : Adm t A B S) (h : Rds t S B l (es.map prD)) : Rd t (S ++ [.dct es]) B (.dct l) (.ref S.length) := by
  unfold Rd
  exact ⟨S.length, es, rfl, a.new _ (Nat.le_refl _), get_last _ _, Rds.imp (fun n o b e => ⟨b, get_old e⟩) _ _ h⟩
theorem cv_tupleX : CallV t cTupleX qTupleX := fun A B S ps r ds ad h e => by
  unfold qTupleX at e
  split at e
  · obtain ⟨d, rfl, q⟩ := rds1 h
    split at e
    · rename_i l hl
      cases e
      obtain ⟨n, es, rfl, e1, e2⟩ := rList hl q
      exact ⟨.ref S.length, [.rot es], by simp only [cTupleX, seq_lst e1], e2.rot ad⟩
    · cases e
  · cases e
theorem rot_sim {p : P} {a : D} {l : List P} (ra : RdT t S A B p a) (e : rotP p = some l) : ∃ n ds, a = .ref n ∧ rotOf a S = some ds ∧ Rds t S B l ds := by
  cases p <;> first | (exfalso; cases e; done) | skip
  cases e
  obtain ⟨n, es, rfl, h1, h2⟩ := rRot ra
  exact ⟨n, es, rfl, by simp only [rotOf, h1], h2⟩
theorem wv_seqX (ha : SimE t s ns fa ga) : SimIS t s ns (wSeqX fa) (wvSeqX ga) := fun A B S env pe τ a T r => (ha A B S env pe τ a T r).bind fun x y S1 τ1 f1 T1 q1 => by
  cases hx : rotP x with
  | none => exact Sim1.none
  | some l =>
    obtain ⟨n, ds, rfl, e1, e2⟩ := rot_sim q1 hx
    rw [e1]
    exact Sim1.ret T1 ⟨e2, fun _ _ => trivial⟩
theorem pr_sim {p : P} {d : D} (h : Rd t S B p d) (e : isPr p = true) : ∃ k v a b kk, p = .tup [k, v] ∧ d = .tup [a, b] ∧ Rd t S B k a ∧ Rd t S B v b ∧ keyP k = some kk ∧ keyO a = some kk := by
  unfold isPr at e
  split at e
  · rename_i k v
    unfold Rd at h
    obtain ⟨ds, rfl, h⟩ := h
    unfold Rds at h
    obtain ⟨a, r, rfl, h1, h⟩ := h
    unfold Rds at h
    obtain ⟨b, r, rfl, h2, h⟩ := h
    unfold Rds at h
    subst h
    obtain ⟨kk, hk⟩ := Option.isSome_iff_exists.mp e
    exact ⟨k, v, a, b, kk, rfl, rfl, h1, h2, hk, by rw [key_sim h1]; exact hk⟩
  · cases e
theorem pairs_sim : ∀ {l : List P} {ds : List D}, Rds t S B l ds → l.all isPr = true → ∃ ps, ds = ps.map prD ∧ pairsD ds = some ps ∧ (ps.all fun e => (keyO e.1).isSome) = true
  | [], ds, q, _ => by
    unfold Rds at q
    subst q
    exact ⟨[], rfl, rfl, rfl⟩
  | p :: l, ds, q, h => by
    unfold Rds at q
    obtain ⟨d, r, rfl, q1, q2⟩ := q
    rw [List.all_cons, Bool.and_eq_true] at h
    obtain ⟨ps, rfl, e1, e2⟩ := pairs_sim q2 h.2
    obtain ⟨k, v, a, b, kk, rfl, rfl, h1, h2, h3, h4⟩ := pr_sim q1 h.1
    refine ⟨(a, b) :: ps, rfl, ?_, ?_⟩
    · unfold pairsD
      simp only [h4, e1]
    · rw [List.all_cons, e2, h4]
      rfl
theorem merge_sim : ∀ {l : List P} {ps : List (D × D)} {acc : List P} {es : List (D × D)}, l.all isPr = true → Rds t S B l (ps.map prD) → Rds t S B acc (es.map prD) → Rds t S B (mergeP acc l) ((mergeD es ps).map prD)
  | [], ps, acc, es, _, q, q' => by
    unfold Rds at q
    cases ps with
    | nil => exact q'
    | cons _ _ => cases q
  | p :: l, ps, acc, es, h, q, q' => by
    unfold Rds at q
    obtain ⟨d, r, e0, q1, q2⟩ := q
    cases ps with
    | nil => cases e0
    | cons e ps =>
      cases e0
      rw [List.all_cons, Bool.and_eq_true] at h
      obtain ⟨k, v, a, b, kk, rfl, h0, h1, h2, h3, h4⟩ := pr_sim q1 h.1
      unfold prD at h0
      injection h0 with h0
      have ea : e.1 = a := by injection h0
      have eb : e.2 = b := by injection h0 with _ h0; injection h0
      subst ea eb
      have e3 : mergeP acc (.tup [k, v] :: l) = mergeP (dputP acc kk v) l := by
        show mergeP (putE' acc (.tup [k, v])) l = _
        unfold putE'
        simp only [h3]
      have e4 : mergeD es (e :: ps) = mergeD (putD es kk e.2) ps := by
        unfold mergeD
        rw [List.foldl_cons, h4]
      rw [e3, e4]
      exact merge_sim h.2 q2 (dput_sim kk h2 q')
theorem cv_dictX : CallV t cDictX qDictX := fun A B S ps r ds ad h e => by
  unfold qDictX at e
  split at e
  · obtain ⟨d, rfl, q⟩ := rds1 h
    split at e
    · rename_i l hl
      split at e
      · rename_i hp
        cases e
        obtain ⟨n, es, rfl, e1, e2⟩ := rot_sim q hl
        obtain ⟨ps, rfl, e3, _⟩ := pairs_sim e2 hp
        exact ⟨.ref S.length, [.dct (mergeD [] ps)], by simp only [cDictX, e1, e3], (merge_sim hp e2 Rds.nil).dct ad⟩
      · cases e
    · cases e
  · cases e
abbrev SimP (t s : Nat) (ns : List Int) (f : Ev → Sto → Ans (List (D × D))) (g : PE → Tau → AP (List P)) : Prop := SimG t s ns (fun _ B S l ps => Rds t S B l (ps.map prD)) f g
theorem vp_nil : SimP t s ns (dPairs []) (vPairs []) := fun A B S env pe τ a T r => Sim1.ret T Rds.nil
theorem vp_cons {fk fv : Ev → Sto → Ans D} {gk gv : PE → Tau → AP P} {fs : List ((Ev → Sto → Ans D) × (Ev → Sto → Ans D))} {gs : List ((PE → Tau → AP P) × (PE → Tau → AP P))} (hk : SimE t s ns fk gk) (hv : SimE t s ns fv gv) (hr : SimP t s ns (dPairs fs) (vPairs gs)) : SimP t s ns (dPairs ((fk, fv) :: fs)) (vPairs ((gk, gv) :: gs)) := fun A B S env pe τ a T r => by
  unfold dPairs vPairs
  refine (hk A B S env pe τ a T r).bind fun x y S1 τ1 f1 T1 q1 => (hv A B S1 env pe τ1 (a.fr f1.len) T1 (r.fr f1 a)).bind fun x2 y2 S2 τ2 f2 T2 q2 => ?_
  by_cases ho : x.isOwn = true ∨ x2.isOwn = true
  · rw [if_pos ho]; exact Sim1.none
  · rw [if_neg ho]
    have a2 := (a.fr f1.len).fr f2.len
    refine (hr A B S2 env pe τ2 a2 T2 ((r.fr f1 a).fr f2 (a.fr f1.len))).bind fun x3 y3 S3 τ3 f3 T3 q3 => Sim1.ret T3 ?_
    have o1 : x.isOwn = false := by simpa using fun h => ho (.inl h)
    have o2 : x2.isOwn = false := by simpa using fun h => ho (.inr h)
    have k1 := (f3.rdt a2 (f2.rdt (a.fr f1.len) q1)).rd o1
    have k2 := (f3.rdt a2 q2).rd o2
    exact Rds.cons (ent_mk (e := (y, y2)) k1 k2) q3
theorem v_disp {fs : List ((Ev → Sto → Ans D) × (Ev → Sto → Ans D))} {gs : List ((PE → Tau → AP P) × (PE → Tau → AP P))} (h : SimP t s ns (dPairs fs) (vPairs gs)) : SimFd t s ns (dDisp fs) (vDisp gs) := fun A B S env pe τ a T r => by
  intro r1 τ' e
  unfold vDisp at e
  have f0 : ∀ m ob, B m → S[m]? = some ob → (B m ∧ m ≠ S.length) ∧ (S ++ [O.dct []])[m]? = some ob := fun m ob hb e => ⟨⟨hb, by have := lst_lt e; omega⟩, get_old e⟩
  have g0 : ∀ m ob, A m → S[m]? = some ob → (A m ∧ m ≠ S.length) ∧ (S ++ [O.dct []])[m]? = some ob := fun m ob hb e => ⟨⟨hb, by have := lst_lt e; omega⟩, get_old e⟩
  have a0 : Adm t (fun m => A m ∧ m ≠ S.length) (fun m => B m ∧ m ≠ S.length) (S ++ [O.dct []]) := ⟨fun n h => by
    have h : S.length + 1 ≤ n := by simpa using h
    exact ⟨a.new n (by omega), by omega⟩, fun n h => ⟨a.sub n h.1, h.2⟩, fun h => a.tape h.1⟩
  have r0 : RelE t (fun m => A m ∧ m ≠ S.length) (fun m => B m ∧ m ≠ S.length) (S ++ [O.dct []]) env pe := ⟨r.len, fun j z ez => by
    obtain ⟨d, h1, h2⟩ := r.slot j z ez
    exact ⟨d, h1, h2.map' (fun _ n ob _ k2 k3 => g0 n ob k2 k3) f0⟩⟩
  have nt : S.length ≠ t := fun z => by have := T.lt; omega
  have nS : S.length ≠ s := fun z => by have := lst_lt T.src; omega
  cases hv : vPairs gs pe τ with
  | none => rw [hv] at e; cases e
  | some q =>
    obtain ⟨r2, τ2⟩ := q
    obtain ⟨r2', S1, k1, f1, T1, q1⟩ := h _ _ _ env pe τ a0 (T.app _) r0 r2 τ2 hv
    rw [hv] at e
    have ff : Fr t S S1 := (Fr.app S _).trans f1
    cases r2 with
    | ex z =>
      cases e
      cases r2' with
      | ok _ => exact q1.elim
      | ex z' => exact ⟨.ex z', S1, by unfold dDisp; rw [k1]; rfl, ff, T1, RdX.mono (fun n z => z.1) q1⟩
    | ok l =>
      cases r2' with
      | ex _ => exact q1.elim
      | ok ps =>
        simp only [bindV] at e
        split at e
        · rename_i hc
          cases e
          have q1 : Rds t S1 (fun m => B m ∧ m ≠ S.length) l (ps.map prD) := q1
          obtain ⟨ps', e1, _, e3⟩ := pairs_sim q1 hc.1
          have inj : ps = ps' := by
            have : Function.Injective prD := fun x y hxy => by
              unfold prD at hxy
              injection hxy with h1
              injection h1 with h1 h2
              injection h2 with h2
              exact Prod.ext h1 h2
            exact (List.map_inj_right (fun x y hxy => this hxy)).mp e1
          subst inj
          have hl : ps.length ≤ 15 := by have := q1.len; simp at this; omega
          have hn : S1[S.length]? = some (.dct []) := f1.get nt (get_last _ _)
          have lt := lst_lt hn
          refine ⟨.ok (.ref S.length), S1.set S.length (.dct (mergeD [] ps)), ?_, ⟨by rw [List.length_set]; exact ff.len, fun m h1 h2 => by rw [List.getElem?_set_ne (by omega)]; exact ff.old m h1 h2⟩, T1.write nt nS, _, S.length, _, rfl, rfl, Nat.le_refl _, List.getElem?_set_self lt, ?_⟩
          · unfold dDisp
            rw [k1]
            simp only [bindR, hn]
            rw [if_pos ⟨e3, hl⟩]
          · exact Rds.imp (fun m ob hb e => ⟨hb, by rw [List.getElem?_set_ne (fun z => hb.2 z.symm), e]⟩) _ _ (merge_sim hc.1 q1 Rds.nil)
        · cases e
/-- dict(zip(..)) of two tuples -/
theorem zipD_pr (ds es : List D) : zipD ds es = (ds.zip es).map prD := rfl
theorem ov_dzip : OpV t gDZip pDZip := fun A B S p q r a b ad ra rb e => by
  unfold pDZip at e
  split at e
  · split at e
    · rename_i hp
      cases e
      obtain ⟨ds, rfl, e1⟩ := rTup ra
      obtain ⟨es, rfl, e2⟩ := rTup rb
      have hz := zipRd e1 e2
      rw [zipD_pr] at hz
      obtain ⟨ps, h1, _, h3⟩ := pairs_sim hz hp
      have inj : ds.zip es = ps := by
        refine (List.map_inj_right (fun x y hxy => ?_)).mp h1
        unfold prD at hxy
        injection hxy with h1
        injection h1 with h1 h2
        injection h2 with h2
        exact Prod.ext h1 h2
      rw [← inj] at h3
      exact ⟨.ref S.length, [.dct (mergeD [] (ds.zip es))], by unfold gDZip; simp only; rw [if_pos h3], (merge_sim hp hz Rds.nil).dct ad⟩
    · cases e
  · cases e
end
/-! ### x = y: the variable's own list goes over -/
def vMove (i j : Nat) : PE → Tau → AnsV := fun pe τ => match pe[j]? with
  | some (some p) => if p.isOwn = true ∧ i ≠ j then some (.nx, (pe.set i (some p)).set j none, τ) else none
  | _ => none
theorem vs_move {t s : Nat} {ns : List Int} (i j : Nat) : SimS t s ns (sAsg (.nm i) (dVar j)) (vMove i j) := fun b A o S env pe τ a T r r' pe' τ' e => by
  unfold vMove at e
  split at e
  · rename_i p hj
    split at e
    · rename_i hc
      cases e
      obtain ⟨d, h1, h2, h3⟩ := r.slot j p hj
      obtain ⟨n, rfl, e2⟩ := h3 hc.1
      have hav : ∀ m ob, Av A o m → S[m]? = some ob → Av A (fun k => if k = i then some n else if k = j then none else o k) m ∧ S[m]? = some ob := fun m ob hm e => ⟨⟨hm.1, fun k z => by
        simp only at z
        split at z
        · cases z; exact hm.2 j e2
        · split at z
          · cases z
          · exact hm.2 k z⟩, e⟩
      refine ⟨.nx, env.set i (some (.ref n)), S, (fun k => if k = i then some n else if k = j then none else o k), ?_, ⟨Nat.le_refl _, fun _ _ _ _ => rfl, fun k m z => ?_⟩, T, ⟨by simp [r.len], fun k x ex => ?_, fun k k' m z z' => ?_, fun k m z => ?_⟩⟩
      · unfold sAsg dVar
        rw [h1]
        rfl
      · skip
        split at z
        · cases z; exact .inl ⟨j, e2⟩
        · split at z
          · cases z
          · exact .inl ⟨k, z⟩
      · rcases get_setS ex with ⟨rfl, ex, hl⟩ | ⟨ne, ex⟩
        · cases ex
        · rcases get_setS ex with ⟨rfl, ex, hl⟩ | ⟨ne', ex⟩
          · cases ex
            exact ⟨.ref n, List.getElem?_set_self (by rw [r.len]; exact hl), h2.map' (fun _ m ob _ k2 k3 => ⟨k2, k3⟩) hav, fun _ => ⟨n, rfl, if_pos rfl⟩⟩
          · obtain ⟨d', g1, g2, g3⟩ := r.slot k x ex
            refine ⟨d', by rw [List.getElem?_set_ne (fun z => ne' z.symm)]; exact g1, g2.map' (fun _ m ob _ k2 k3 => ⟨k2, k3⟩) hav, fun z => ?_⟩
            obtain ⟨m, g4, g5⟩ := g3 z
            exact ⟨m, g4, by show (if k = i then some n else if k = j then none else o k) = some m; rw [if_neg ne', if_neg ne]; exact g5⟩
      · skip
        split at z
        · cases z
          split at z'
          · rename_i q1 q2; rw [q1, q2]
          · split at z'
            · cases z'
            · rename_i q1 q2 q3; exact absurd (r.inj k' j _ z' e2) q3
        · split at z
          · cases z
          · split at z'
            · cases z'
              rename_i q1 q2 q3; exact absurd (r.inj k j _ z e2) q2
            · split at z'
              · cases z'
              · exact r.inj k k' m z z'
      · skip
        split at z
        · cases z; exact r.own j _ e2
        · split at z
          · cases z
          · exact r.own k m z
    · cases e
  · cases e
/-! ### lending a variable's own list to an expression that gives no list -/
def flatA : AP P → AP P
  | some (.ok p, τ) => if p.flat = true then some (.ok p, τ) else none
  | _ => none
def vLend (i : Nat) (ge : PE → Tau → AP P) : PE → Tau → AP P := fun pe τ => flatA (ge (thawAt i pe) τ)
theorem RelE.lend {t : Nat} {A B : Nat → Prop} {S : Sto} {env : Ev} {pe : PE} (h : RelE t A B S env pe) (a : Adm t A B S) (i : Nat) : RelE t A A S env (thawAt i pe) := by
  have key : ∀ (p : P) (d : D), RdT t S A B p d → RdT t S A A p d := fun p d q => q.map' (fun _ n ob _ x e => ⟨x, e⟩) (fun n ob b e => ⟨a.sub n b, e⟩)
  unfold thawAt
  split
  · rename_i p hp
    split
    · refine ⟨by simp [h.len], fun j x ex => ?_⟩
      rcases get_setS ex with ⟨rfl, ex, hl⟩ | ⟨ne, ex⟩
      · cases ex
        obtain ⟨d, h1, h2⟩ := h.slot j p hp
        exact ⟨d, h1, RdT.of (h2.thaw a.sub)⟩
      · obtain ⟨d, h1, h2⟩ := h.slot j x ex
        exact ⟨d, h1, key _ _ h2⟩
    · exact ⟨h.len, fun j x ex => by
        obtain ⟨d, h1, h2⟩ := h.slot j x ex
        exact ⟨d, h1, key _ _ h2⟩⟩
  · exact ⟨h.len, fun j x ex => by
      obtain ⟨d, h1, h2⟩ := h.slot j x ex
      exact ⟨d, h1, key _ _ h2⟩⟩
theorem v_lend {t s : Nat} {ns : List Int} {fe : Ev → Sto → Ans D} {ge : PE → Tau → AP P} (i : Nat) (he : SimE t s ns fe ge) : SimE t s ns fe (vLend i ge) := fun A B S env pe τ a T r => by
  intro r1 τ' e
  unfold vLend at e
  cases hg : ge (thawAt i pe) τ with
  | none => rw [hg] at e; cases e
  | some q =>
    obtain ⟨q, τ1⟩ := q
    rw [hg] at e
    cases q with
    | ex _ => cases e
    | ok p =>
      simp only [flatA] at e
      split at e
      · rename_i hf
        cases e
        obtain ⟨r', S', h1, h2, h3, h4⟩ := he A A S env _ τ ⟨fun n z => a.sub n (a.new n z), fun _ z => z, a.tape⟩ T (r.lend a i) _ _ hg
        cases r' with
        | ex _ => exact h4.elim
        | ok d =>
          have no : p.isOwn = false := by cases p <;> first | rfl | cases hf
          exact ⟨.ok d, S', h1, h2, h3, RdT.of (Rd.flat p d hf (RdT.rd h4 no))⟩
      · cases e
end VL
namespace VL
open PySem PySem.Spec PyProof.Rows L2 RT RZ DL

/-! ### how the computations go on, for simp -/
section
variable {α β : Type} {τ τ' : Tau} {pe pe' : PE} {fa fb : PE → Tau → AP P} {fs gs : PE → Tau → AP (List P)} {ga gb : PE → Tau → AP Bool} {f g : PE → Tau → AnsV}
@[simp] theorem W_bind_ok (a : α) (k : α → Tau → AP β) : bindV (some (.ok a, τ)) k = k a τ := rfl
@[simp] theorem W_bind_none (k : α → Tau → AP β) : bindV none k = none := rfl
@[simp] theorem W_bind_ex (x : XP) (k : α → Tau → AP β) : bindV (some (.ex x, τ)) k = some (.ex x, τ) := rfl
@[simp] theorem W_bindS_ok (a : α) (k : α → Tau → AnsV) : bindSV (some (.ok a, τ)) pe k = k a τ := rfl
@[simp] theorem W_bindS_none (k : α → Tau → AnsV) : bindSV none pe k = none := rfl
@[simp] theorem W_bindS_ex (x : XP) (k : α → Tau → AnsV) : bindSV (some (.ex x, τ)) pe k = some (.ex x, pe, τ) := rfl
@[simp] theorem W_ok_some (a : α) : okV (some a) τ = some (.ok a, τ) := rfl
@[simp] theorem W_ok_none : okV (none : Option α) τ = none := rfl
@[simp] theorem W_var (i : Nat) : vVar i pe τ = match pe[i]? with
  | some (some p) => some (.ok p, τ)
  | _ => none := rfl
@[simp] theorem W_c (p : P) : vC p pe τ = some (.ok p, τ) := rfl
@[simp] theorem W_op (h : P → P → Option P) : vOp h fa fb pe τ = bindV (fa pe τ) fun a τ1 => bindV (fb pe τ1) fun b τ2 => okV (h a b) τ2 := rfl
@[simp] theorem W_un (h : P → Option P) : vUn h fa pe τ = bindV (fa pe τ) fun a τ1 => okV (h a) τ1 := rfl
@[simp] theorem W_nil : vNil pe τ = some (.ok [], τ) := rfl
@[simp] theorem W_cons : vCons fa fs pe τ = bindV (fa pe τ) fun a τ1 => bindV (fs pe τ1) fun r τ2 => some (.ok (a :: r), τ2) := rfl
@[simp] theorem W_cb (h : List P → Option P) : vCB h fs pe τ = bindV (fs pe τ) fun ds τ1 => okV (h ds) τ1 := rfl
@[simp] theorem W_ss : vSS fa pe τ = bindV (fa pe τ) fun a τ1 => okV (qSS a) τ1 := rfl
@[simp] theorem W_tru : vTru fa pe τ = bindV (fa pe τ) fun a τ1 => okV (truP a) τ1 := rfl
@[simp] theorem W_and : vAnd ga gb pe τ = bindV (ga pe τ) fun a τ1 => if a = true then gb pe τ1 else some (.ok false, τ1) := rfl
@[simp] theorem W_or : vOr ga gb pe τ = bindV (ga pe τ) fun a τ1 => if a = true then some (.ok true, τ1) else gb pe τ1 := rfl
@[simp] theorem W_not : vNot ga pe τ = bindV (ga pe τ) fun a τ1 => some (.ok (!a), τ1) := rfl
@[simp] theorem W_andV : vAndV fa fb pe τ = bindV (fa pe τ) fun a τ1 => bindV (okV (truP a) τ1) fun c τ1 => if c = true then fb pe τ1 else some (.ok a, τ1) := rfl
@[simp] theorem W_orV : vOrV fa fb pe τ = bindV (fa pe τ) fun a τ1 => bindV (okV (truP a) τ1) fun c τ1 => if c = true then some (.ok a, τ1) else fb pe τ1 := rfl
@[simp] theorem W_notV : vNotV fa pe τ = bindV (fa pe τ) fun a τ1 => bindV (okV (truP a) τ1) fun c τ1 => some (.ok (.bl (!c)), τ1) := rfl
@[simp] theorem W_if : vIf ga fa fb pe τ = bindV (ga pe τ) fun c τ1 => if c = true then fa pe τ1 else fb pe τ1 := rfl
@[simp] theorem W_bl : vBl fa pe τ = bindV (fa pe τ) fun a τ1 => okV (pBl a) τ1 := rfl
@[simp] theorem W_pBl (b : Bool) : pBl (.bl b) = some b := rfl
@[simp] theorem W_call (G : MirV) : vCall G gs pe τ = bindV (gs pe τ) fun ps τ1 => vCallP G ps τ1 := rfl
@[simp] theorem W_callD (G : MirV) (dd : List P) : vCallD G dd gs pe τ = bindV (gs pe τ) fun ps τ1 => vCallP G (ps ++ dd) τ1 := rfl
@[simp] theorem W_callK (G : MirV) (n k : Nat) : vCallK G n k gs fs pe τ = bindV (gs pe τ) fun ps τ1 => bindV (fs pe τ1) fun qs τ2 => if ps.length = n ∧ qs.length = k then vCallP G (ps ++ qs) τ2 else none := rfl
@[simp] theorem W_isi (T : String) : vIsi T fa pe τ = bindV (fa pe τ) fun a τ1 => match tyP a with
  | some n => match kitB n T with
    | some b => some (.ok (.bl b), τ1)
    | none => none
  | none => none := rfl
@[simp] theorem W_opt_none : vOpt none pe τ = some (.ok none, τ) := rfl
@[simp] theorem W_opt_some : vOpt (some fa) pe τ = bindV (fa pe τ) fun d τ1 => match d with
    | .int i => some (.ok (some i), τ1)
    | _ => none := rfl
@[simp] theorem W_sl (fl fh : Option (PE → Tau → AP P)) : vSl fa fl fh pe τ = bindV (fa pe τ) fun a τ1 => bindV (vOpt fl pe τ1) fun lo τ2 => bindV (vOpt fh pe τ2) fun hi τ3 => okV (pSl a lo hi) τ3 := rfl
@[simp] theorem W_slL (fl fh : Option (PE → Tau → AP P)) : vSlL fa fl fh pe τ = bindV (fa pe τ) fun a τ1 => bindV (vOpt fl pe τ1) fun lo τ2 => bindV (vOpt fh pe τ2) fun hi τ3 => okV (match pSl a lo hi with | some (.lst l) => some (.lst l) | _ => none) τ3 := rfl
@[simp] theorem W_true : vTrue pe τ = some (.ok true, τ) := rfl
@[simp] theorem W_next : vNext pe τ = some (.nx, pe, τ) := rfl
@[simp] theorem W_break : vBreak pe τ = some (.bk, pe, τ) := rfl
@[simp] theorem W_cont : vCont pe τ = some (.ct, pe, τ) := rfl
@[simp] theorem W_seq : vSeq f g pe τ = match f pe τ with
  | some (.nx, pe1, τ1) => g pe1 τ1
  | x => x := rfl
@[simp] theorem W_asg (tg : Tg) : vAsg tg fa pe τ = bindSV (fa pe τ) pe fun p τ1 => match putP tg p pe with
  | some pe1 => some (.nx, pe1, τ1)
  | none => none := rfl
@[simp] theorem W_asgO (i : Nat) : vAsgO i fa pe τ = bindSV (fa pe τ) pe fun p τ1 => match p with
  | .lst l => some (.nx, pe.set i (some (.own l)), τ1)
  | _ => none := rfl
@[simp] theorem W_thaw (i : Nat) : vThaw i g pe τ = g (thawAt i pe) τ := rfl
@[simp] theorem W_thawAt (i : Nat) : thawAt i pe = match pe[i]? with
  | some (some p) => if p.isOwn = true then pe.set i (some p.thaw) else pe
  | _ => pe := rfl
@[simp] theorem W_dnew : vDNew pe τ = some (.ok (.dct []), τ) := rfl
@[simp] theorem W_asgD (i : Nat) : vAsgD i fa pe τ = bindSV (fa pe τ) pe fun p τ1 => match p with
  | .dct l => some (.nx, pe.set i (some (.ownd l)), τ1)
  | _ => none := rfl
@[simp] theorem W_dm : vDM fa gs pe τ = bindV (fa pe τ) fun a τ1 => if (dctP a).isSome = true then bindV (gs pe τ1) fun ds τ2 => okV (pDGet a ds) τ2 else none := rfl
@[simp] theorem W_setD (i : Nat) : vSetD i fa fb pe τ = bindSV (fa pe τ) pe fun p τ1 => match pe[i]? with
  | some (some (.ownd _)) => bindSV (fb pe τ1) pe fun k τ2 => if p.isOwn = true then none else match pe[i]? with
    | some (some (.ownd l)) => match keyP k with
      | some kk => if l.length < sizeLine then some (.nx, pe.set i (some (.ownd (dputP l kk p))), τ2) else none
      | none => none
    | _ => none
  | _ => none := rfl
@[simp] theorem W_appPop (i j : Nat) : vAppPop i j fa pe τ = match pe[i]?, pe[j]? with
  | some (some (.own l)), some (some (.own m)) => bindSV (fa pe τ) pe fun k τ1 => match k with
    | .int k => if i ≠ j ∧ 0 ≤ k ∧ k ≤ 1000000000 ∧ l.length < sizeLine then match m[k.toNat]? with
      | some p => some (.nx, (pe.set j (some (.own (m.eraseIdx k.toNat)))).set i (some (.own (l ++ [p]))), τ1)
      | none => none
      else none
    | _ => none
  | _, _ => none := rfl
@[simp] theorem W_lc2 (gw gw1 : PE → Tau → AP (List P)) (tg tg1 : Tg) (gb : PE → Tau → AP Bool) (vs vs1 : List Nat) : vLc2 gw tg ga gw1 tg1 gb fa vs vs1 pe τ = bindV (gw pe τ) fun l τ1 => match lcV2 tg ga gw1 tg1 gb fa vs1 (wipeV pe vs) l 0 τ1 with
  | some (ps, τ2) => some (.ok (.lst ps), τ2)
  | none => none := rfl
@[simp] theorem W_wseqX : wvSeqX fa pe τ = bindV (fa pe τ) fun d τ1 => okV (rotP d) τ1 := rfl
@[simp] theorem rotP_rot (l : List P) : rotP (.rot l) = some l := rfl
@[simp] theorem own_rot (l : List P) : (P.rot l).isOwn = false := rfl
@[simp] theorem thaw_rot (l : List P) : (P.rot l).thaw = .rot l := rfl
@[simp] theorem qTupleX_one (p : P) : qTupleX [p] = match lstOf p with
    | some l => some (.rot l)
    | none => none := rfl
@[simp] theorem lstOf_lst (l : List P) : lstOf (.lst l) = some l := rfl
@[simp] theorem lstOf_own (l : List P) : lstOf (.own l) = some l := rfl
@[simp] theorem qDictX_rot (l : List P) : qDictX [.rot l] = if l.all isPr = true then some (.dct (mergeP [] l)) else none := rfl
@[simp] theorem W_disp (gs : List ((PE → Tau → AP P) × (PE → Tau → AP P))) : vDisp gs pe τ = bindV (vPairs gs pe τ) fun l τ1 => if l.all isPr = true ∧ l.length ≤ 15 then some (.ok (.dct (mergeP [] l)), τ1) else none := rfl
@[simp] theorem W_pairs0 : vPairs [] pe τ = some (.ok [], τ) := rfl
@[simp] theorem W_pairs1 (p : (PE → Tau → AP P) × (PE → Tau → AP P)) (r : List ((PE → Tau → AP P) × (PE → Tau → AP P))) : vPairs (p :: r) pe τ = bindV (p.1 pe τ) fun k τ1 => bindV (p.2 pe τ1) fun v τ2 => if k.isOwn = true ∨ v.isOwn = true then none else bindV (vPairs r pe τ2) fun l τ3 => some (.ok (.tup [k, v] :: l), τ3) := rfl
@[simp] theorem pDZip_tup (xs ys : List P) : pDZip (.tup xs) (.tup ys) = if (zipP xs ys).all isPr = true then some (.dct (mergeP [] (zipP xs ys))) else none := rfl
@[simp] theorem W_move (i j : Nat) : vMove i j pe τ = match pe[j]? with
  | some (some p) => if p.isOwn = true ∧ i ≠ j then some (.nx, (pe.set i (some p)).set j none, τ) else none
  | _ => none := rfl
@[simp] theorem W_lend (i : Nat) : vLend i fa pe τ = flatA (fa (thawAt i pe) τ) := rfl
@[simp] theorem flatA_int (i : Int) : flatA (some (.ok (.int i), τ)) = some (.ok (.int i), τ) := rfl
@[simp] theorem flatA_bl (i : Bool) : flatA (some (.ok (.bl i), τ)) = some (.ok (.bl i), τ) := rfl
@[simp] theorem dctP_dct (l : List P) : dctP (.dct l) = some l := rfl
@[simp] theorem dctP_ownd (l : List P) : dctP (.ownd l) = some l := rfl
@[simp] theorem own_dct (l : List P) : (P.dct l).isOwn = false := rfl
@[simp] theorem own_ownd (l : List P) : (P.ownd l).isOwn = true := rfl
@[simp] theorem thaw_dct (l : List P) : (P.dct l).thaw = .dct l := rfl
@[simp] theorem thaw_ownd (l : List P) : (P.ownd l).thaw = .dct l := rfl
@[simp] theorem qListD_one (p : P) : qListD [p] = match dctP p with
    | some l => some (.lst (keysP l))
    | none => none := rfl
@[simp] theorem qLenD_one (p : P) : qLenD [p] = match dctP p with
    | some l => some (.int l.length)
    | none => none := rfl
@[simp] theorem pInA_dct (p : P) (l : List P) : pInA p (.dct l) = match findP l p with
    | some r => some (.bl r.isSome)
    | none => none := rfl
@[simp] theorem pInA_ownd (p : P) (l : List P) : pInA p (.ownd l) = match findP l p with
    | some r => some (.bl r.isSome)
    | none => none := rfl
@[simp] theorem pNotInA_dct (p : P) (l : List P) : pNotInA p (.dct l) = match findP l p with
    | some r => some (.bl (!r.isSome))
    | none => none := rfl
@[simp] theorem pNotInA_ownd (p : P) (l : List P) : pNotInA p (.ownd l) = match findP l p with
    | some r => some (.bl (!r.isSome))
    | none => none := rfl
@[simp] theorem pDGet_one (a k : P) : pDGet a [k] = match dctP a with
    | some l => match findP l k with
      | some r => some (r.getD .non)
      | none => none
    | none => none := rfl
@[simp] theorem pDGet_two (a k x : P) : pDGet a [k, x] = if x.isOwn = true then none else match dctP a with
    | some l => match findP l k with
      | some r => some (r.getD x)
      | none => none
    | none => none := rfl
@[simp] theorem pIxD_str (a : P) (x : Str) : pIxD a (.str x) = match dctP a with
    | some l => lookP l (.inr x)
    | none => none := rfl
@[simp] theorem findP_str (l : List P) (x : Str) : findP l (.str x) = some (lookP l (.inr x)) := rfl
@[simp] theorem findP_int (l : List P) (x : Int) : findP l (.int x) = some (lookP l (.inl x)) := rfl
@[simp] theorem findP_non (l : List P) : findP l .non = some none := rfl
@[simp] theorem W_expr : vExpr fa pe τ = bindSV (fa pe τ) pe fun _ τ1 => some (.nx, pe, τ1) := rfl
@[simp] theorem W_ret : vRet fa pe τ = bindSV (fa pe τ) pe fun p τ1 => some (.rt p.thaw, pe, τ1) := rfl
@[simp] theorem W_retN : vRetN pe τ = some (.rt .non, pe, τ) := rfl
@[simp] theorem W_ifS : vIfS ga f g pe τ = bindSV (ga pe τ) pe fun c τ1 => if c = true then f pe τ1 else g pe τ1 := rfl
@[simp] theorem W_for (gi : PE → Tau → AP (List P)) (tg : Tg) : vFor gi tg g pe τ = bindSV (gi pe τ) pe fun l τ1 => forV tg g l pe τ1 := rfl
@[simp] theorem W_append (i : Nat) : vAppend i fa pe τ = match pe[i]? with
  | some (some (.own _)) => bindSV (fa pe τ) pe fun p τ1 => if p.isOwn = true then none else match pe[i]? with
    | some (some (.own l)) => if l.length < sizeLine then some (.nx, pe.set i (some (.own (l ++ [p]))), τ1) else none
    | _ => none
  | _ => none := rfl
@[simp] theorem W_popS (i : Nat) : vPopS i pe τ = match pe[i]? with
  | some (some (.own l)) => if l.length = 0 then none else some (.nx, pe.set i (some (.own l.dropLast)), τ)
  | _ => none := rfl
@[simp] theorem W_setI (i : Nat) : vSetI i fa fb pe τ = bindSV (fa pe τ) pe fun p τ1 => match pe[i]? with
  | some (some (.own _)) => bindSV (fb pe τ1) pe fun k τ2 => if p.isOwn = true then none else match pe[i]?, k with
    | some (some (.own l)), .int k => match ixN l.length k with
      | some j => some (.nx, pe.set i (some (.own (l.set j p))), τ2)
      | none => none
    | _, _ => none
  | _ => none := rfl
@[simp] theorem W_aug (i : Nat) (h : P → P → Option P) : vAug i h fa pe τ = match pe[i]? with
  | some (some x) => bindSV (fa pe τ) pe fun y τ1 => match h x y with
    | some z => if z.isOwn = true then none else some (.nx, pe.set i (some z), τ1)
    | none => none
  | _ => none := rfl
@[simp] theorem W_put_nm (i : Nat) (p : P) : putP (.nm i) p pe = if p.isOwn = true then none else some (pe.set i (some p)) := rfl
@[simp] theorem W_put_tp (l : List Tg) (ps : List P) : putP (.tp l) (.tup ps) pe = putPs l ps pe := rfl
@[simp] theorem W_puts_nil : putPs [] [] pe = some pe := rfl
@[simp] theorem W_puts_cons (t : Tg) (ts : List Tg) (p : P) (ps : List P) : putPs (t :: ts) (p :: ps) pe = match putP t p pe with
    | some pe1 => putPs ts ps pe1
    | none => none := rfl
@[simp] theorem W_run (n m : Nat) (ps : List P) : runV n m f ps τ = if ps.length = n then match f (ps.map some ++ List.replicate (m - n) none) τ with
    | some (.nx, _, τ') => some (.ok .non, τ')
    | some (.rt p, _, τ') => some (.ok p, τ')
    | some (.ex e, _, τ') => some (.ex e, τ')
    | _ => none
  else none := rfl
@[simp] theorem W_wipe0 : wipeV pe [] = pe := rfl
@[simp] theorem W_wipe1 (v : Nat) (vs : List Nat) : wipeV pe (v :: vs) = (wipeV pe vs).set v none := rfl
@[simp] theorem W_lc (gw : PE → Tau → AP (List P)) (tg : Tg) (vs : List Nat) : vLc gw tg ga fa vs pe τ = bindV (gw pe τ) fun l τ1 => if l.length ≤ sizeLine then match lcV tg ga fa (wipeV pe vs) l τ1 with
  | some (ps, τ2) => some (.ok (.lst ps), τ2)
  | none => none
  else none := rfl
@[simp] theorem W_wseq : wvSeq fa pe τ = bindV (fa pe τ) fun d τ1 => okV (items d) τ1 := rfl
@[simp] theorem W_wseqC : wvSeqC fa pe τ = bindV (fa pe τ) fun d τ1 => okV (itemsC d) τ1 := rfl
@[simp] theorem W_wrange : wvRange gs pe τ = bindV (gs pe τ) fun ps τ1 => okV (qRange ps) τ1 := rfl
@[simp] theorem W_wrev : wvRev fa pe τ = bindV (fa pe τ) fun d τ1 => okV ((items d).map List.reverse) τ1 := rfl
@[simp] theorem W_wrevC : wvRevC fa pe τ = bindV (fa pe τ) fun d τ1 => okV ((itemsC d).map List.reverse) τ1 := rfl
@[simp] theorem W_wstr : wvStr fa pe τ = bindV (fa pe τ) fun d τ1 => match d with
  | .str x => some (.ok (charsP x), τ1)
  | _ => none := rfl
@[simp] theorem W_wenum : wvEnum gs pe τ = bindV (gs pe τ) fun ps τ1 => okV (qEnum ps) τ1 := rfl
@[simp] theorem W_wenumC : wvEnumC gs pe τ = bindV (gs pe τ) fun ps τ1 => okV (qEnumC ps) τ1 := rfl
@[simp] theorem W_wzip : wvZip gs pe τ = bindV (gs pe τ) fun ps τ1 => okV (qZip ps) τ1 := rfl
@[simp] theorem W_wzipC : wvZipC gs pe τ = bindV (gs pe τ) fun ps τ1 => okV (qZipC ps) τ1 := rfl
@[simp] theorem W_qEnum (p : P) : qEnum [p] = (items p).map enumP := rfl
@[simp] theorem W_qEnumC (p : P) : qEnumC [p] = (itemsC p).map enumP := rfl
@[simp] theorem W_qRange1 (j : Int) : qRange [.int j] = if RgB j then some (rangeP 0 j.toNat) else none := rfl
@[simp] theorem W_qRange2 (i j : Int) : qRange [.int i, .int j] = if RgB i ∧ RgB j then some (rangeP i (j - i).toNat) else none := rfl
/-! own or not -/
@[simp] theorem own_non : P.isOwn .non = false := rfl
@[simp] theorem own_bl (b : Bool) : P.isOwn (.bl b) = false := rfl
@[simp] theorem own_int (b : Int) : P.isOwn (.int b) = false := rfl
@[simp] theorem own_str (b : Str) : P.isOwn (.str b) = false := rfl
@[simp] theorem own_tup (b : List P) : P.isOwn (.tup b) = false := rfl
@[simp] theorem own_lst (b : List P) : P.isOwn (.lst b) = false := rfl
@[simp] theorem own_own (b : List P) : P.isOwn (.own b) = true := rfl
@[simp] theorem own_tape : P.isOwn .tape = false := rfl
@[simp] theorem thaw_own (b : List P) : P.thaw (.own b) = .lst b := rfl
theorem thaw_of {p : P} (h : p.isOwn = false) : p.thaw = p := by cases p <;> first | rfl | cases h
@[simp] theorem thaw_non : P.thaw .non = .non := rfl
@[simp] theorem thaw_bl (b : Bool) : P.thaw (.bl b) = .bl b := rfl
@[simp] theorem thaw_int (b : Int) : P.thaw (.int b) = .int b := rfl
@[simp] theorem thaw_str (b : Str) : P.thaw (.str b) = .str b := rfl
@[simp] theorem thaw_tup (b : List P) : P.thaw (.tup b) = .tup b := rfl
@[simp] theorem thaw_lst (b : List P) : P.thaw (.lst b) = .lst b := rfl
@[simp] theorem items_tup (l : List P) : items (.tup l) = some l := rfl
@[simp] theorem items_lst (l : List P) : items (.lst l) = some l := rfl
@[simp] theorem items_own (l : List P) : items (.own l) = some l := rfl
@[simp] theorem itemsC_tup (l : List P) : itemsC (.tup l) = some l := rfl
@[simp] theorem itemsC_lst (l : List P) : itemsC (.lst l) = some l := rfl
@[simp] theorem tru_non : truP .non = some false := rfl
@[simp] theorem tru_bl (b : Bool) : truP (.bl b) = some b := rfl
@[simp] theorem tru_int (i : Int) : truP (.int i) = some (i != 0) := rfl
@[simp] theorem tru_tup (l : List P) : truP (.tup l) = some (!l.isEmpty) := rfl
@[simp] theorem tru_lst (l : List P) : truP (.lst l) = some (!l.isEmpty) := rfl
@[simp] theorem tru_own (l : List P) : truP (.own l) = some (!l.isEmpty) := rfl
/-- a call with no own list -/
theorem call_of {G : MirV} {ps : List P} (h : ps.any P.isOwn = false) : vCallP G ps τ = G ps τ := by
  unfold vCallP
  rw [h]
  rfl
theorem call_own {G : MirV} {ps : List P} (h : ps.any P.isOwn = true) : vCallP G ps τ = flatR (G (ps.map P.thaw) τ) := by
  unfold vCallP
  rw [h]
  rfl
@[simp] theorem W_callP (G : MirV) (ps : List P) : vCallP G ps τ = if ps.any P.isOwn = true then flatR (G (ps.map P.thaw) τ) else G ps τ := rfl
@[simp] theorem W_flatR (p : P) : flatR (some (.ok p, τ)) = if p.flat = true then some (.ok p, τ) else none := rfl
@[simp] theorem flat_non : P.flat .non = true := rfl
@[simp] theorem flat_bl (b : Bool) : P.flat (.bl b) = true := rfl
@[simp] theorem flat_int (b : Int) : P.flat (.int b) = true := rfl
@[simp] theorem flat_str (b : Str) : P.flat (.str b) = true := rfl
@[simp] theorem flat_tup (b : List P) : P.flat (.tup b) = P.flats b := rfl
@[simp] theorem flats_nil : P.flats [] = true := rfl
@[simp] theorem flats_cons (p : P) (l : List P) : P.flats (p :: l) = (p.flat && P.flats l) := rfl
/-! operations -/
@[simp] theorem pAdd_int (i j : Int) : pAdd (.int i) (.int j) = some (.int (i + j)) := rfl
theorem pAdd_str (x y : Str) (h : x.length + y.length ≤ sizeLine) : pAdd (.str x) (.str y) = some (.str (x ++ y)) := if_pos h
theorem pAdd_tup (x y : List P) (h : x.length + y.length ≤ sizeLine) : pAdd (.tup x) (.tup y) = some (.tup (x ++ y)) := if_pos h
@[simp] theorem pAdd_ll (x y : List P) : pAdd (.lst x) (.lst y) = pCat (.lst x) (.lst y) := rfl
@[simp] theorem pAdd_lo (x y : List P) : pAdd (.lst x) (.own y) = pCat (.lst x) (.own y) := rfl
@[simp] theorem pAdd_ol (x y : List P) : pAdd (.own x) (.lst y) = pCat (.own x) (.lst y) := rfl
@[simp] theorem pAdd_oo (x y : List P) : pAdd (.own x) (.own y) = pCat (.own x) (.own y) := rfl
theorem pCat_of {p q : P} {x y : List P} (h1 : lstOf p = some x) (h2 : lstOf q = some y) (h : x.length + y.length ≤ sizeLine) : pCat p q = some (.lst (x ++ y)) := by
  unfold pCat
  rw [h1, h2]
  exact if_pos h
@[simp] theorem pCat_ll (x y : List P) : pCat (.lst x) (.lst y) = if x.length + y.length ≤ sizeLine then some (.lst (x ++ y)) else none := rfl
@[simp] theorem pCat_lo (x y : List P) : pCat (.lst x) (.own y) = if x.length + y.length ≤ sizeLine then some (.lst (x ++ y)) else none := rfl
@[simp] theorem pCat_ol (x y : List P) : pCat (.own x) (.lst y) = if x.length + y.length ≤ sizeLine then some (.lst (x ++ y)) else none := rfl
@[simp] theorem pCat_oo (x y : List P) : pCat (.own x) (.own y) = if x.length + y.length ≤ sizeLine then some (.lst (x ++ y)) else none := rfl
@[simp] theorem pIAdd_int (i j : Int) : pIAdd (.int i) (.int j) = some (.int (i + j)) := rfl
@[simp] theorem pSub_int (i j : Int) : pSub (.int i) (.int j) = some (.int (i - j)) := rfl
@[simp] theorem pNeg_int (i : Int) : pNeg (.int i) = some (.int (-i)) := rfl
@[simp] theorem pMulR (i j : Int) (h1 : -(2 ^ 64) < j) (h2 : j < 2 ^ 64) : pMul (.int i) (.int j) = some (.int (i * j)) := if_pos (.inl (.inr ⟨h1, h2⟩))
@[simp] theorem pMod_int (i j : Int) (h : 0 < j) : pMod (.int i) (.int j) = some (.int (i % j)) := if_pos h
theorem pFdiv_int (i j : Int) (h : CDivW i j) : pFdiv (.int i) (.int j) = some (.int (i / j)) := if_pos h
@[simp] theorem pPow_int (i j : Int) (h0 : 0 ≤ j) (h1 : j ≤ 1000000) (h2 : i.natAbs < 2 ^ 64) : pPow (.int i) (.int j) = some (.int (i ^ j.toNat)) := if_pos ⟨h0, h1, h2⟩
@[simp] theorem pEq_def (p q : P) : pEq p q = (eqP p q).map P.bl := rfl
@[simp] theorem pNe_def (p q : P) : pNe p q = (eqP p q).map fun x => P.bl (!x) := rfl
@[simp] theorem pIn_def (p q : P) : pIn p q = (inP p q).map P.bl := rfl
@[simp] theorem pNotIn_def (p q : P) : pNotIn p q = (inP p q).map fun x => P.bl (!x) := rfl
@[simp] theorem eqP_int (i j : Int) : eqP (.int i) (.int j) = some (decide (i = j)) := rfl
@[simp] theorem eqP_str (i j : Str) : eqP (.str i) (.str j) = some (decide (i = j)) := rfl
@[simp] theorem eqP_bl (i j : Bool) : eqP (.bl i) (.bl j) = some (decide (i = j)) := rfl
@[simp] theorem eqP_nn : eqP .non .non = some true := rfl
@[simp] theorem eqP_ns (x : Str) : eqP .non (.str x) = some false := rfl
@[simp] theorem eqP_sn (x : Str) : eqP (.str x) .non = some false := rfl
@[simp] theorem pLt_int (i j : Int) : pLt (.int i) (.int j) = some (.bl (decide (i < j))) := rfl
@[simp] theorem pLe_int (i j : Int) : pLe (.int i) (.int j) = some (.bl (decide (i ≤ j))) := rfl
@[simp] theorem pGt_int (i j : Int) : pGt (.int i) (.int j) = some (.bl (decide (j < i))) := rfl
@[simp] theorem pGe_int (i j : Int) : pGe (.int i) (.int j) = some (.bl (decide (j ≤ i))) := rfl
@[simp] theorem pLt_str (i j : Str) : pLt (.str i) (.str j) = some (.bl (decide (i.cps.toList < j.cps.toList))) := rfl
@[simp] theorem pLe_str (i j : Str) : pLe (.str i) (.str j) = some (.bl (!decide (j.cps.toList < i.cps.toList))) := rfl
@[simp] theorem pGt_str (i j : Str) : pGt (.str i) (.str j) = some (.bl (decide (j.cps.toList < i.cps.toList))) := rfl
@[simp] theorem pIs_non (p : P) : pIs p .non = some (.bl (isNonP p)) := rfl
@[simp] theorem pIsNot_non (p : P) : pIsNot p .non = some (.bl (!isNonP p)) := rfl
@[simp] theorem isNon_non : isNonP .non = true := rfl
@[simp] theorem isNon_bl (b : Bool) : isNonP (.bl b) = false := rfl
@[simp] theorem isNon_int (b : Int) : isNonP (.int b) = false := rfl
@[simp] theorem isNon_str (b : Str) : isNonP (.str b) = false := rfl
@[simp] theorem isNon_tup (b : List P) : isNonP (.tup b) = false := rfl
@[simp] theorem isNon_lst (b : List P) : isNonP (.lst b) = false := rfl
@[simp] theorem pIx_tup (l : List P) (i : Int) : pIx (.tup l) (.int i) = atI l i := rfl
@[simp] theorem pIx_lst (l : List P) (i : Int) : pIx (.lst l) (.int i) = atI l i := rfl
@[simp] theorem pIx_own (l : List P) (i : Int) : pIx (.own l) (.int i) = atI l i := rfl
@[simp] theorem at0 {α : Type} (x : α) (l : List α) : atI (x :: l) 0 = some x := by
  have : ((0 : Nat) : Int) = 0 := rfl
  rw [← this]; exact atI_nat rfl
@[simp] theorem at1 {α : Type} (x y : α) (l : List α) : atI (x :: y :: l) 1 = some y := atI_nat (j := 1) rfl
@[simp] theorem at2 {α : Type} (x y z : α) (l : List α) : atI (x :: y :: z :: l) 2 = some z := atI_nat (j := 2) rfl
@[simp] theorem at3 {α : Type} (x y z u : α) (l : List α) : atI (x :: y :: z :: u :: l) 3 = some u := atI_nat (j := 3) rfl
@[simp] theorem at4 {α : Type} (x y z u v : α) (l : List α) : atI (x :: y :: z :: u :: v :: l) 4 = some v := atI_nat (j := 4) rfl
theorem at_map {α : Type} {f : α → P} {l : List α} {i : Nat} {x : α} (h : l[i]? = some x) : atI (l.map f) (i : Int) = some (f x) := atI_nat (by rw [List.getElem?_map, h]; rfl)
theorem at_nth {α : Type} {f : α → P} {l : List α} {k : Nat} (h : k < l.length) : atI (l.map f) (k : Int) = some (f l[k]) := at_map (by rw [List.getElem?_eq_getElem h])
@[simp] theorem qTup_def (l : List P) : qTup l = if l.length ≤ sizeLine ∧ l.any P.isOwn = false then some (.tup l) else none := rfl
@[simp] theorem qLst_def (l : List P) : qLst l = if l.length ≤ sizeLine ∧ l.any P.isOwn = false then some (.lst l) else none := rfl
@[simp] theorem qInt_int (i : Int) : qInt [.int i] = some (.int i) := rfl
@[simp] theorem qInt_bl (b : Bool) : qInt [.bl b] = some (.int (if b then 1 else 0)) := rfl
@[simp] theorem qAbs_int (i : Int) : qAbs [.int i] = some (.int (if i < 0 then -i else i)) := rfl
@[simp] theorem qMax2_int (i j : Int) : qMax2 [.int i, .int j] = some (.int (if j > i then j else i)) := rfl
@[simp] theorem qMin2_int (i j : Int) : qMin2 [.int i, .int j] = some (.int (if j < i then j else i)) := rfl
@[simp] theorem qLen_1 (p : P) : qLen [p] = qLen1 p := rfl
@[simp] theorem qLen_tup (l : List P) : qLen1 (.tup l) = some (.int l.length) := rfl
@[simp] theorem qLen_lst (l : List P) : qLen1 (.lst l) = some (.int l.length) := rfl
@[simp] theorem qLen_own (l : List P) : qLen1 (.own l) = some (.int l.length) := rfl
@[simp] theorem qList_1 (p : P) : qList [p] = match items p with
    | some ds => some (.lst ds)
    | none => none := rfl
@[simp] theorem qTuple_1 (p : P) : qTuple [p] = match items p with
    | some ds => some (.tup ds)
    | none => none := rfl
@[simp] theorem tyP_non : tyP .non = some "NoneType" := rfl
@[simp] theorem tyP_bl (b : Bool) : tyP (.bl b) = some "bool" := rfl
@[simp] theorem tyP_int (b : Int) : tyP (.int b) = some "int" := rfl
@[simp] theorem tyP_str (b : Str) : tyP (.str b) = some "str" := rfl
@[simp] theorem tyP_tup (b : List P) : tyP (.tup b) = some "tuple" := rfl
@[simp] theorem tyP_lst (b : List P) : tyP (.lst b) = some "list" := rfl
@[simp] theorem tyP_own (b : List P) : tyP (.own b) = some "list" := rfl
@[simp] theorem ln1 : 1 ≤ sizeLine := by decide
@[simp] theorem ln2 : 2 ≤ sizeLine := by decide
@[simp] theorem ln3 : 3 ≤ sizeLine := by decide
@[simp] theorem ln4 : 4 ≤ sizeLine := by decide
@[simp] theorem ln5 : 5 ≤ sizeLine := by decide
@[simp] theorem ln6 : 6 ≤ sizeLine := by decide
@[simp] theorem ln8 : 8 ≤ sizeLine := by decide
@[simp] theorem ln12 : 12 ≤ sizeLine := by decide
@[simp] theorem any_str (l : List Str) : (l.map P.str).any P.isOwn = false := by
  induction l with
  | nil => rfl
  | cons x l ih => rw [List.map_cons, List.any_cons, ih]; rfl
@[simp] theorem strsP_map : ∀ is : List Str, strsP (is.map P.str) = some is
  | [] => rfl
  | i :: is => by simp [strsP, strsP_map is]
@[simp] theorem intsP_map : ∀ is : List Int, intsP (is.map P.int) = some is
  | [] => rfl
  | i :: is => by simp [intsP, intsP_map is]
@[simp] theorem blsP_map : ∀ is : List Bool, blsP (is.map P.bl) = some is
  | [] => rfl
  | i :: is => by simp [blsP, blsP_map is]
/-- texts in texts -/
theorem inS_str (x : Str) : ∀ l : List Str, inS (.str x) (l.map P.str) = decide (x ∈ l)
  | [] => rfl
  | y :: l => by
    show (eqS (.str y) (.str x) || inS (.str x) (l.map P.str)) = _
    rw [inS_str x l]
    show ((y == x) || _) = _
    rw [Bool.eq_iff_iff]
    simp only [Bool.or_eq_true, beq_iff_eq, decide_eq_true_eq, List.mem_cons]
    exact ⟨fun h => h.imp Eq.symm id, fun h => h.imp Eq.symm id⟩
theorem sc_strs : ∀ l : List Str, (l.map P.str).all P.sc = true
  | [] => rfl
  | y :: l => by rw [List.map_cons, List.all_cons, sc_strs l]; rfl
theorem inP_of {x : Str} {p : P} {l : List Str} (h : items p = some (l.map P.str)) : inP (.str x) p = some (decide (x ∈ l)) := by
  cases p <;> first | cases h | skip
  all_goals (simp only [inP, items] at *; subst_vars)
  all_goals (try (cases h))
  all_goals (rw [if_pos ⟨rfl, sc_strs l⟩, inS_str])
@[simp] theorem inP_tup (x : Str) (l : List Str) : inP (.str x) (.tup (l.map P.str)) = some (decide (x ∈ l)) := inP_of rfl
@[simp] theorem inP_lst (x : Str) (l : List Str) : inP (.str x) (.lst (l.map P.str)) = some (decide (x ∈ l)) := inP_of rfl
@[simp] theorem inP_own (x : Str) (l : List Str) : inP (.str x) (.own (l.map P.str)) = some (decide (x ∈ l)) := inP_of rfl
@[simp] theorem inP_nil1 (x : Str) : inP (.str x) (.tup []) = some false := rfl
@[simp] theorem inP_nil2 (x : Str) : inP (.str x) (.lst []) = some false := rfl
@[simp] theorem inP_nil3 (x : Str) : inP (.str x) (.own []) = some false := rfl
@[simp] theorem rangeP_len (lo : Int) (n : Nat) : (rangeP lo n).length = n := by simp [rangeP]
theorem rangeP_get {lo : Int} {n i : Nat} {x : P} (h : (rangeP lo n)[i]? = some x) : i < n ∧ x = .int (lo + i) := by
  unfold rangeP at h
  rw [List.getElem?_map] at h
  by_cases hi : i < n
  · rw [List.getElem?_range hi] at h
    cases h
    exact ⟨hi, rfl⟩
  · rw [List.getElem?_eq_none (by simpa using hi)] at h
    cases h
theorem rangeP_at {n j : Nat} {x : P} (h : (rangeP 0 n)[j]? = some x) : j < n ∧ x = .int (j : Int) := by
  obtain ⟨a, b⟩ := rangeP_get h
  exact ⟨a, by rw [b, Int.zero_add]⟩
end
theorem qSS_of {p : P} {l : List Str} (h : items p = some (l.map P.str)) (hz : l.length ≤ 4000) : qSS p = some (.lst ((sortU l).map P.str)) := by
  unfold qSS
  rw [h]
  simp only [strsP_map]
  exact if_pos hz
/-! ### loops -/
/-- a loop with an invariant; it may be left by a return -/
theorem forV_rule {tg : Tg} {fb : PE → Tau → AnsV} (Inv : Nat → PE → Tau → Prop) (Brk : PE → Tau → Prop) (Ret : P → Tau → Prop) : ∀ (l : List P) (i : Nat) (pe : PE) (τ : Tau) (hI : Inv i pe τ)
    (step : ∀ j x pe τ, l[j]? = some x → Inv (i + j) pe τ → ∃ pe1, putP tg x pe = some pe1 ∧ ((∃ pe2 τ2, (fb pe1 τ = some (.nx, pe2, τ2) ∨ fb pe1 τ = some (.ct, pe2, τ2)) ∧ Inv (i + j + 1) pe2 τ2) ∨ (∃ pe2 τ2, fb pe1 τ = some (.bk, pe2, τ2) ∧ Brk pe2 τ2) ∨ ∃ p pe2 τ2, fb pe1 τ = some (.rt p, pe2, τ2) ∧ Ret p τ2)),
    (∃ pe' τ', forV tg fb l pe τ = some (.nx, pe', τ') ∧ (Inv (i + l.length) pe' τ' ∨ Brk pe' τ')) ∨ ∃ p pe' τ', forV tg fb l pe τ = some (.rt p, pe', τ') ∧ Ret p τ'
  | [], i, pe, τ, hI, _ => .inl ⟨pe, τ, rfl, .inl hI⟩
  | x :: xs, i, pe, τ, hI, step => by
    obtain ⟨pe1, h1, h2⟩ := step 0 x pe τ rfl hI
    unfold forV
    rw [h1]
    simp only
    rcases h2 with ⟨pe2, τ2, h2, h3⟩ | ⟨pe2, τ2, h2, h3⟩ | ⟨p, pe2, τ2, h2, h3⟩
    · have ih := forV_rule Inv Brk Ret xs (i + 1) pe2 τ2 h3 (fun j y pe τ hy hj => by
        have q := step (j + 1) y pe τ (by simpa using hy) (by rw [show i + (j + 1) = i + 1 + j by omega]; exact hj)
        rw [show i + (j + 1) + 1 = i + 1 + j + 1 by omega] at q
        exact q)
      rw [show i + 1 + xs.length = i + (x :: xs).length by simp only [List.length_cons]; omega] at ih
      rcases h2 with h2 | h2
      · simp only [h2]; exact ih
      · simp only [h2]; exact ih
    · simp only [h2]
      exact .inl ⟨pe2, τ2, rfl, .inr h3⟩
    · simp only [h2]
      exact .inr ⟨p, pe2, τ2, rfl, h3⟩
/-- a loop that is not left early -/
theorem forV_all {tg : Tg} {fb : PE → Tau → AnsV} (Inv : Nat → PE → Tau → Prop) (l : List P) (pe : PE) (τ : Tau) (hI : Inv 0 pe τ)
    (step : ∀ j x pe τ, l[j]? = some x → Inv j pe τ → ∃ pe1 pe2 τ2, putP tg x pe = some pe1 ∧ fb pe1 τ = some (.nx, pe2, τ2) ∧ Inv (j + 1) pe2 τ2) :
    ∃ pe' τ', forV tg fb l pe τ = some (.nx, pe', τ') ∧ Inv l.length pe' τ' := by
  rcases forV_rule (fb := fb) Inv (fun _ _ => False) (fun _ _ => False) l 0 pe τ hI (fun j x pe τ hx hj => by
    rw [Nat.zero_add] at hj ⊢
    obtain ⟨pe1, pe2, τ2, a, b, c⟩ := step j x pe τ hx hj
    exact ⟨pe1, a, .inl ⟨pe2, τ2, .inl b, c⟩⟩) with ⟨pe', τ', h1, h2 | h2⟩ | ⟨_, _, _, _, h⟩
  · exact ⟨pe', τ', h1, by simpa using h2⟩
  · exact h2.elim
  · exact h.elim
/-- a comprehension whose parts change nothing -/
theorem lcV_map {α : Type} {tg : Tg} {gt : PE → Tau → AP Bool} {ge : PE → Tau → AP P} {pe : PE} {τ : Tau} (enc : α → P) (l : List α) (b : α → Bool) (y : α → P)
    (step : ∀ x ∈ l, ∃ pe1, putP tg (enc x) pe = some pe1 ∧ gt pe1 τ = some (.ok (b x), τ) ∧ (b x = true → ge pe1 τ = some (.ok (y x), τ) ∧ (y x).isOwn = false)) : lcV tg gt ge pe (l.map enc) τ = some ((l.filter b).map y, τ) := by
  induction l with
  | nil => rfl
  | cons x l ih =>
    obtain ⟨pe1, h1, h2, h3⟩ := step x List.mem_cons_self
    have ih := ih fun z hz => step z (List.mem_cons_of_mem _ hz)
    rw [List.map_cons]
    unfold lcV
    rw [h1]
    simp only [h2]
    cases hb : b x with
    | false => simp only [ih, List.filter_cons, hb]; rfl
    | true =>
      obtain ⟨h4, h5⟩ := h3 hb
      simp only [h4, h5, ih, List.filter_cons, hb]
      rfl
/-- a comprehension that draws: what it makes satisfies Q at each place -/
theorem lcV_ex {α : Type} {tg : Tg} {ge : PE → Tau → AP P} {pe : PE} (enc : α → P) (Q : Nat → List α → Prop) (l : List P) (h0 : Q 0 [])
    (step : ∀ j x τ acc, l[j]? = some x → Q j acc → ∃ pe1 y τ2, putP tg x pe = some pe1 ∧ ge pe1 τ = some (.ok (enc y), τ2) ∧ (enc y).isOwn = false ∧ Q (j + 1) (acc ++ [y])) (τ : Tau) : ∃ ys τ', lcV tg vTrue ge pe l τ = some (ys.map enc, τ') ∧ Q l.length ys := by
  have key : ∀ (m : List P) (i : Nat) (acc : List α) (τ : Tau), (∀ j x, m[j]? = some x → l[i + j]? = some x) → Q i acc → ∃ ys τ', lcV tg vTrue ge pe m τ = some (ys.map enc, τ') ∧ Q (i + m.length) (acc ++ ys) := by
    intro m
    induction m with
    | nil => intro i acc τ _ h; exact ⟨[], τ, rfl, by simpa using h⟩
    | cons x m ih =>
      intro i acc τ hm h
      obtain ⟨pe1, y, τ2, h1, h2, h3, h4⟩ := step i x τ acc (by simpa using hm 0 x rfl) h
      obtain ⟨ys, τ', h5, h6⟩ := ih (i + 1) (acc ++ [y]) τ2 (fun j z hz => by
        have := hm (j + 1) z (by simpa using hz)
        rw [show i + 1 + j = i + (j + 1) by omega]
        exact this) h4
      refine ⟨y :: ys, τ', ?_, ?_⟩
      · unfold lcV
        rw [h1]
        simp only [W_true, h2, h3, h5]
        rfl
      · rw [List.append_assoc, show i + 1 + m.length = i + (x :: m).length by simp only [List.length_cons]; omega] at h6
        exact h6
  obtain ⟨ys, τ', h1, h2⟩ := key l 0 [] τ (fun j x h => by simpa using h) h0
  exact ⟨ys, τ', h1, by simpa using h2⟩
end VL
namespace VL
open PySem PySem.Spec PyProof.Rows L2 RT RZ DL
/-! ### == of plain data: f: bools are in it, but no numbers; not f: numbers, but no bools -/
mutual
def Gd (f : Bool) : Nat → P → Bool
  | _, .non => true
  | _, .bl _ => f
  | _, .int _ => !f
  | _, .str x => PyData.strOk x
  | 0, .tup _ => false
  | d + 1, .tup l => Gds f d l
  | _, _ => false
def Gds (f : Bool) : Nat → List P → Bool
  | _, [] => true
  | d, p :: l => Gd f d p && Gds f d l
end
@[simp] theorem Gd_non (f : Bool) (d : Nat) : Gd f d .non = true := by cases d <;> simp [Gd]
@[simp] theorem Gd_bl (f : Bool) (d : Nat) (b : Bool) : Gd f d (.bl b) = f := by cases d <;> simp [Gd]
@[simp] theorem Gd_int (f : Bool) (d : Nat) (b : Int) : Gd f d (.int b) = !f := by cases d <;> simp [Gd]
@[simp] theorem Gd_str (f : Bool) (d : Nat) (b : Str) : Gd f d (.str b) = PyData.strOk b := by cases d <;> simp [Gd]
@[simp] theorem Gd_tup (f : Bool) (d : Nat) (b : List P) : Gd f (d + 1) (.tup b) = Gds f d b := by simp [Gd]
@[simp] theorem Gds_nil (f : Bool) (d : Nat) : Gds f d [] = true := by cases d <;> simp [Gds]
@[simp] theorem Gds_cons (f : Bool) (d : Nat) (p : P) (l : List P) : Gds f d (p :: l) = (Gd f d p && Gds f d l) := by cases d <;> simp [Gds]
theorem Gds_iff {f : Bool} {d : Nat} : ∀ {l : List P}, Gds f d l = true ↔ ∀ p ∈ l, Gd f d p = true
  | [] => by simp
  | p :: l => by simp [Gds_iff (l := l)]
theorem Gds_map {α : Type} {f : Bool} {d : Nat} {e : α → P} {l : List α} (h : ∀ x ∈ l, Gd f d (e x) = true) : Gds f d (l.map e) = true := Gds_iff.mpr fun p hp => by
  obtain ⟨x, hx, rfl⟩ := List.mem_map.mp hp
  exact h x hx
mutual
theorem gd_py {f : Bool} : ∀ (d : Nat) (p : P), Gd f d p = true → ∃ x, p.py = some x ∧ x.canLay0 = true ∧ x.depth ≤ d
  | d, .non, _ => ⟨_, rfl, by simp [PyData.canLay0], by simp [PyData.depth]⟩
  | d, .bl _, _ => ⟨_, rfl, by simp [PyData.canLay0], by simp [PyData.depth]⟩
  | d, .int _, _ => ⟨_, rfl, by simp [PyData.canLay0], by simp [PyData.depth]⟩
  | d, .str x, h => ⟨_, rfl, by simpa [PyData.canLay0] using h, by simp [PyData.depth]⟩
  | 0, .tup l, h => by simp [Gd] at h
  | d + 1, .tup l, h => by
    obtain ⟨xs, h1, h2, h3⟩ := gds_py d l (by simpa using h)
    exact ⟨.tuple xs, by simp only [P.py, h1], by simpa [PyData.canLay0] using h2, by simp only [PyData.depth]; omega⟩
  | d, .lst _, h => by cases d <;> simp [Gd] at h
  | d, .own _, h => by cases d <;> simp [Gd] at h
  | d, .tape, h => by cases d <;> simp [Gd] at h
theorem gds_py {f : Bool} : ∀ (d : Nat) (l : List P), Gds f d l = true → ∃ xs, P.pys l = some xs ∧ PyData.canLayAll0 xs = true ∧ PyData.depthAll xs ≤ d
  | d, [], _ => ⟨[], rfl, by simp [PyData.canLayAll0], by simp [PyData.depthAll]⟩
  | d, p :: l, h => by
    simp only [Gds_cons, Bool.and_eq_true] at h
    obtain ⟨x, h1, h2, h3⟩ := gd_py d p h.1
    obtain ⟨xs, k1, k2, k3⟩ := gds_py d l h.2
    exact ⟨x :: xs, by simp only [P.pys, h1, k1], by simp [PyData.canLayAll0, h2, k2], by simp only [PyData.depthAll]; omega⟩
end
mutual
theorem gd_eqv {f : Bool} : ∀ (p q : P) (d e : Nat) (x y : PyData), Gd f d p = true → Gd f e q = true → p.py = some x → q.py = some y → (PyData.eqv x y = true ↔ p = q)
  | .non, q, d, e, x, y, _, hq, hx, hy => by
    cases hx
    cases q <;> first | (cases hy; simp [PyData.eqv]; done) | skip
    · simp only [P.py] at hy
      split at hy
      · cases hy; simp [PyData.eqv]
      · cases hy
    all_goals (simp [P.py] at hy)
  | .bl a, q, d, e, x, y, hp, hq, hx, hy => by
    cases hx
    cases q <;> first | (cases hy; simp [PyData.eqv]; done) | skip
    · simp at hp hq; rw [hp] at hq; cases hq
    · simp only [P.py] at hy
      split at hy
      · cases hy; simp [PyData.eqv]
      · cases hy
    all_goals (simp [P.py] at hy)
  | .int a, q, d, e, x, y, hp, hq, hx, hy => by
    cases hx
    cases q <;> first | (cases hy; simp [PyData.eqv]; done) | skip
    · simp at hp hq; rw [hp] at hq; cases hq
    · simp only [P.py] at hy
      split at hy
      · cases hy; simp [PyData.eqv]
      · cases hy
    all_goals (simp [P.py] at hy)
  | .str a, q, d, e, x, y, hp, hq, hx, hy => by
    cases hx
    cases q <;> first | (cases hy; simp [PyData.eqv]; done) | skip
    · simp only [P.py] at hy
      split at hy
      · cases hy; simp [PyData.eqv]
      · cases hy
    all_goals (simp [P.py] at hy)
  | .tup l, q, d, e, x, y, hp, hq, hx, hy => by
    cases d with
    | zero => simp [Gd] at hp
    | succ d =>
      simp only [P.py] at hx
      split at hx
      · rename_i xs hxs
        cases hx
        cases q <;> first | (cases hy; simp [PyData.eqv]; done) | skip
        · rename_i m
          cases e with
          | zero => simp [Gd] at hq
          | succ e =>
            simp only [P.py] at hy
            split at hy
            · rename_i ys hys
              cases hy
              simp only [PyData.eqv, P.tup.injEq]
              exact gds_eqv l m d e xs ys (by simpa using hp) (by simpa using hq) hxs hys
            · cases hy
        all_goals (simp [P.py] at hy)
      · cases hx
  | .lst _, q, d, e, x, y, hp, hq, hx, hy => by simp [P.py] at hx
  | .own _, q, d, e, x, y, hp, hq, hx, hy => by simp [P.py] at hx
  | .tape, q, d, e, x, y, hp, hq, hx, hy => by simp [P.py] at hx
theorem gds_eqv {f : Bool} : ∀ (p q : List P) (d e : Nat) (x y : List PyData), Gds f d p = true → Gds f e q = true → P.pys p = some x → P.pys q = some y → (PyData.eqvAll x y = true ↔ p = q)
  | [], [], d, e, x, y, _, _, hx, hy => by cases hx; cases hy; simp [PyData.eqvAll]
  | [], q :: m, d, e, x, y, _, _, hx, hy => by
    cases hx
    simp only [P.pys] at hy
    split at hy
    · cases hy; simp [PyData.eqvAll]
    · cases hy
  | p :: l, [], d, e, x, y, _, _, hx, hy => by
    cases hy
    simp only [P.pys] at hx
    split at hx
    · cases hx; simp [PyData.eqvAll]
    · cases hx
  | p :: l, q :: m, d, e, x, y, hp, hq, hx, hy => by
    simp only [P.pys] at hx hy
    simp only [Gds_cons, Bool.and_eq_true] at hp hq
    split at hx
    · rename_i a as ha has
      cases hx
      split at hy
      · rename_i b bs hb hbs
        cases hy
        simp only [PyData.eqvAll, Bool.and_eq_true, List.cons.injEq]
        rw [gd_eqv p q d e a b hp.1 hq.1 ha hb, gds_eqv l m d e as bs hp.2 hq.2 has hbs]
      · cases hy
    · cases hx
end
theorem gd_pyT {f : Bool} {d : Nat} {p : P} (h : Gd f d p = true) : pyT p = p.py := by
  cases p <;> first | rfl | (cases d <;> simp [Gd] at h)
theorem eqP_ex {f : Bool} {d e : Nat} {p q : P} (h1 : Gd f d p = true) (h2 : Gd f e q = true) (hd : d ≤ 64) (he : e ≤ 64) : ∃ b, eqP p q = some b ∧ (b = true ↔ p = q) := by
  have deep : ∃ b, deepP p q = some b ∧ (b = true ↔ p = q) := by
    obtain ⟨x, a1, a2, a3⟩ := gd_py d p h1
    obtain ⟨y, b1, b2, b3⟩ := gd_py e q h2
    refine ⟨PyData.eqv x y, ?_, gd_eqv p q d e x y h1 h2 a1 b1⟩
    unfold deepP
    rw [gd_pyT h1, gd_pyT h2, a1, b1]
    simp only
    rw [if_pos ⟨by unfold SeqAt.shaped; simp [a2]; omega, by unfold SeqAt.shaped; simp [b2]; omega⟩]
  unfold eqP
  split
  · exact ⟨_, rfl, by simp⟩
  · exact ⟨_, rfl, by simp⟩
  · exact ⟨_, rfl, by simp⟩
  · exact ⟨_, rfl, by simp⟩
  · exact ⟨_, rfl, by simp⟩
  · exact ⟨_, rfl, by simp⟩
  · exact deep
theorem eqP_self {f : Bool} {d : Nat} {p : P} (h : Gd f d p = true) (hd : d ≤ 64 := by decide) : eqP p p = some true := by
  obtain ⟨b, h1, h2⟩ := eqP_ex h h hd hd
  rw [h1, h2.mpr rfl]
theorem eqP_iff {f : Bool} {d e : Nat} {p q : P} {c : Prop} [Decidable c] (h1 : Gd f d p = true) (h2 : Gd f e q = true) (h : p = q ↔ c) (hd : d ≤ 64 := by decide) (he : e ≤ 64 := by decide) : eqP p q = some (decide c) := by
  obtain ⟨b, h3, h4⟩ := eqP_ex h1 h2 hd he
  rw [h3]
  congr 1
  rw [Bool.eq_iff_iff, h4, h, decide_eq_true_eq]
theorem str_inj {a b : List Str} (h : a.map P.str = b.map P.str) : a = b := List.map_inj_right (fun _ _ e => by cases e; rfl) |>.mp h
theorem Gds_strs (f : Bool) (d : Nat) {l : List Str} (h : ∀ x ∈ l, PyData.strOk x = true) : Gds f d (l.map P.str) = true := Gds_map fun x hx => by simpa using h x hx
theorem eqP_strs {a b : List Str} (ha : ∀ x ∈ a, PyData.strOk x = true) (hb : ∀ x ∈ b, PyData.strOk x = true) : eqP (.tup (a.map P.str)) (.tup (b.map P.str)) = some (decide (a = b)) :=
  eqP_iff (f := true) (d := 1) (e := 1) (by rw [Gd_tup]; exact Gds_strs _ _ ha) (by rw [Gd_tup]; exact Gds_strs _ _ hb) ⟨fun h => str_inj (by injection h), fun h => by rw [h]⟩
end VL
namespace LW
open PySem PySem.Spec PyProof.Rows L2 RT RZ DL
def topS (i : Nat) : Stmt := PySem.Challenge.pw_migraproof_k09_condition_holds.main.body.getD i (.Pass ⟨0, 0, 0, 0⟩)
abbrev s_table_place : Stmt := topS 1
abbrev N_table_place : List Str := ["tables", "name", "place", "table"]
theorem sc_table_place : FnScope N_table_place ["tables", "name"] (defScope s_table_place) := ⟨rfl, rfl, rfl, by decide +kernel, rfl, by decide +kernel, by decide +kernel⟩
abbrev s_column_place : Stmt := topS 2
abbrev N_column_place : List Str := ["table", "name", "place", "column"]
theorem sc_column_place : FnScope N_column_place ["table", "name"] (defScope s_column_place) := ⟨rfl, rfl, rfl, by decide +kernel, rfl, by decide +kernel, by decide +kernel⟩
abbrev s_cell_at : Stmt := topS 3
abbrev N_cell_at : List Str := ["tables", "operand", "record", "place", "row"]
theorem sc_cell_at : FnScope N_cell_at ["tables", "operand", "record"] (defScope s_cell_at) := ⟨rfl, rfl, rfl, by decide +kernel, rfl, by decide +kernel, by decide +kernel⟩
abbrev s_holds : Stmt := topS 4
abbrev N_holds : List Str := ["tables", "condition", "record", "kind", "part"]
theorem sc_holds : FnScope N_holds ["tables", "condition", "record"] (defScope s_holds) := ⟨rfl, rfl, rfl, by decide +kernel, rfl, by decide +kernel, by decide +kernel⟩
abbrev s__law_tape : Stmt := topS 6
abbrev N__law_tape : List Str := ["_law_script", "_law_total", "_law_cell_here"]
theorem sc__law_tape : FnScope N__law_tape ["_law_script"] (defScope s__law_tape) := ⟨rfl, rfl, rfl, by decide +kernel, rfl, by decide +kernel, by decide +kernel⟩
abbrev s__law_draw : Stmt := topS 7
abbrev N__law_draw : List Str := ["_law_tape_here", "_law_many_here", "_law_place", "_law_number"]
theorem sc__law_draw : FnScope N__law_draw ["_law_tape_here", "_law_many_here"] (defScope s__law_draw) := ⟨rfl, rfl, rfl, by decide +kernel, rfl, by decide +kernel, by decide +kernel⟩
abbrev s__law_reserved : Stmt := topS 8
abbrev N__law_reserved : List Str := []
theorem sc__law_reserved : FnScope N__law_reserved [] (defScope s__law_reserved) := ⟨rfl, rfl, rfl, by decide +kernel, rfl, by decide +kernel, by decide +kernel⟩
abbrev s__law_words : Stmt := topS 9
abbrev N__law_words : List Str := ["_law_tape_here", "_law_many_here", "_law_taken", "_law_letters", "_law_marks", "_law_shape_here", "_law_words_here", "_law_k", "_law_number", "_law_word", "_law_base", "_law_j"]
theorem sc__law_words : FnScope N__law_words ["_law_tape_here", "_law_many_here", "_law_taken"] (defScope s__law_words) := ⟨rfl, rfl, rfl, by decide +kernel, rfl, by decide +kernel, by decide +kernel⟩
abbrev s__law_text : Stmt := topS 10
abbrev N__law_text : List Str := ["_law_tape_here", "_law_marks", "_law_choice", "_law_number", "_law_length", "_law_place", "_law_first"]
theorem sc__law_text : FnScope N__law_text ["_law_tape_here"] (defScope s__law_text) := ⟨rfl, rfl, rfl, by decide +kernel, rfl, by decide +kernel, by decide +kernel⟩
abbrev s__law_texts : Stmt := topS 11
abbrev N__law_texts : List Str := ["_law_tape_here", "_law_many_here", "_law_taken", "_law_texts_here", "_law_k", "_law_text_here", "_law_j"]
theorem sc__law_texts : FnScope N__law_texts ["_law_tape_here", "_law_many_here", "_law_taken"] (defScope s__law_texts) := ⟨rfl, rfl, rfl, by decide +kernel, rfl, by decide +kernel, by decide +kernel⟩
abbrev s__law_many : Stmt := topS 12
abbrev N__law_many : List Str := ["_law_tables_here", "_law_many_here", "_law_ways", "_law_table", "_law_after", "_law_column", "_law_extra", "_law_longer", "_law_j", "_law_number"]
theorem sc__law_many : FnScope N__law_many ["_law_tables_here", "_law_many_here"] (defScope s__law_many) := ⟨rfl, rfl, rfl, by decide +kernel, rfl, by decide +kernel, by decide +kernel⟩
abbrev s__law_textual : Stmt := topS 13
abbrev N__law_textual : List Str := ["_law_tables_here", "_law_found", "_law_table", "_law_column"]
theorem sc__law_textual : FnScope N__law_textual ["_law_tables_here"] (defScope s__law_textual) := ⟨rfl, rfl, rfl, by decide +kernel, rfl, by decide +kernel, by decide +kernel⟩
abbrev s__law_tables : Stmt := topS 14
abbrev N__law_tables : List Str := ["_law_tape_here", "_law_most", "_law_many_here", "_law_width", "_law_tables_here", "_law_name", "_law_optional", "_law_columns", "_law_label", "_law_kind", "_law_column", "_law_total", "_law_table"]
theorem sc__law_tables : FnScope N__law_tables ["_law_tape_here", "_law_most", "_law_many_here", "_law_width"] (defScope s__law_tables) := ⟨rfl, rfl, rfl, by decide +kernel, rfl, by decide +kernel, by decide +kernel⟩
abbrev s__law_value_words : Stmt := topS 15
abbrev N__law_value_words : List Str := ["_law_tables_here", "_law_words_here", "_law_table", "_law_column", "_law_some", "_law_word"]
theorem sc__law_value_words : FnScope N__law_value_words ["_law_tables_here"] (defScope s__law_value_words) := ⟨rfl, rfl, rfl, by decide +kernel, rfl, by decide +kernel, by decide +kernel⟩
abbrev s__law_operand : Stmt := topS 16
abbrev N__law_operand : List Str := ["_law_tape_here", "_law_tables_here", "_law_pool", "_law_words_here", "_law_textual_here", "_law_fitting", "_law_table", "_law_choice", "_law_pair", "_law_column"]
theorem sc__law_operand : FnScope N__law_operand ["_law_tape_here", "_law_tables_here", "_law_pool", "_law_words_here", "_law_textual_here"] (defScope s__law_operand) := ⟨rfl, rfl, rfl, by decide +kernel, rfl, by decide +kernel, by decide +kernel⟩
abbrev s__law_condition : Stmt := topS 17
abbrev N__law_condition : List Str := ["_law_tape_here", "_law_tables_here", "_law_pool", "_law_words_here", "_law_deep", "_law_choice", "_law_pieces", "_law_many_here", "_law_k", "_law_textual_here", "_law_left"]
theorem sc__law_condition : FnScope N__law_condition ["_law_tape_here", "_law_tables_here", "_law_pool", "_law_words_here", "_law_deep"] (defScope s__law_condition) := ⟨rfl, rfl, rfl, by decide +kernel, rfl, by decide +kernel, by decide +kernel⟩
abbrev s__law_shape : Stmt := topS 18
abbrev N__law_shape : List Str := ["_law_tape_here", "_law_tables_here", "_law_texts_here", "_law_rows", "_law_table", "_law_cells", "_law_column", "_law_kind", "_law_word"]
theorem sc__law_shape : FnScope N__law_shape ["_law_tape_here", "_law_tables_here", "_law_texts_here"] (defScope s__law_shape) := ⟨rfl, rfl, rfl, by decide +kernel, rfl, by decide +kernel, by decide +kernel⟩
abbrev s__law_cell : Stmt := topS 19
abbrev N__law_cell : List Str := ["_law_tables_here", "_law_operand_here", "_law_record", "_law_k", "_law_j"]
theorem sc__law_cell : FnScope N__law_cell ["_law_tables_here", "_law_operand_here", "_law_record"] (defScope s__law_cell) := ⟨rfl, rfl, rfl, by decide +kernel, rfl, by decide +kernel, by decide +kernel⟩
abbrev s__law_holds : Stmt := topS 20
abbrev N__law_holds : List Str := ["_law_tables_here", "_law_condition_here", "_law_record", "_law_k", "_law_same", "_law_part"]
theorem sc__law_holds : FnScope N__law_holds ["_law_tables_here", "_law_condition_here", "_law_record"] (defScope s__law_holds) := ⟨rfl, rfl, rfl, by decide +kernel, rfl, by decide +kernel, by decide +kernel⟩
abbrev s__law_deepened : Stmt := topS 21
abbrev N__law_deepened : List Str := ["_law_tape_here", "_law_condition_here", "_law_many_here", "_law_k", "_law_choice"]
theorem sc__law_deepened : FnScope N__law_deepened ["_law_tape_here", "_law_condition_here", "_law_many_here"] (defScope s__law_deepened) := ⟨rfl, rfl, rfl, by decide +kernel, rfl, by decide +kernel, by decide +kernel⟩
abbrev s__law_large : Stmt := topS 22
abbrev N__law_large : List Str := ["_law_tape_here", "_law_widest", "_law_names", "_law_left", "_law_tables_here", "_law_k", "_law_many_here", "_law_columns", "_law_label", "_law_choice", "_law_kind", "_law_j"]
theorem sc__law_large : FnScope N__law_large ["_law_tape_here", "_law_widest"] (defScope s__law_large) := ⟨rfl, rfl, rfl, by decide +kernel, rfl, by decide +kernel, by decide +kernel⟩
abbrev s__law_any_tables : Stmt := topS 23
abbrev N__law_any_tables : List Str := ["_law_tape_here", "_law_widest"]
theorem sc__law_any_tables : FnScope N__law_any_tables ["_law_tape_here", "_law_widest"] (defScope s__law_any_tables) := ⟨rfl, rfl, rfl, by decide +kernel, rfl, by decide +kernel, by decide +kernel⟩
abbrev s_law : Stmt := topS 24
abbrev N_law : List Str := ["_law_script", "_law_tape_here", "_law_pool", "_law_tables_here", "_law_condition_here", "_law_texts_here", "_law_record", "_law_due", "_law_told", "_law_negation"]
theorem sc_law : FnScope N_law ["_law_script"] (defScope s_law) := ⟨rfl, rfl, rfl, by decide +kernel, rfl, by decide +kernel, by decide +kernel⟩
noncomputable def m_table_place : Ev → Sto → AnsS :=
    (sSeq (sFor (wEnumA (dCons (dVar 0) dNil)) (.tp [(.nm 2), (.nm 3)]) (sIf (dBl (dOp gEq (dOp gIx (dVar 3) (dC (.int 0))) (dVar 1))) (sRet (dVar 2)) sNext))
    (sRet (dC .non)))
noncomputable abbrev r_table_place : Mir := runB 2 4 (m_table_place)
noncomputable def m_column_place : Ev → Sto → AnsS :=
    (sSeq (sFor (wEnumA (dCons (dOp gIx (dVar 0) (dC (.int 2))) dNil)) (.tp [(.nm 2), (.nm 3)]) (sIf (dBl (dOp gEq (dOp gIx (dVar 3) (dC (.int 0))) (dVar 1))) (sRet (dVar 2)) sNext))
    (sRet (dC .non)))
noncomputable abbrev r_column_place : Mir := runB 2 4 (m_column_place)
noncomputable def m_cell_at (f_column_place : Mir) (f_table_place : Mir) : Ev → Sto → AnsS :=
    (sSeq (sIf (dBl (dOp gEq (dOp gIx (dVar 1) (dC (.int 0))) (dC (.str (Str.ofString "cell"))))) (sRet (dOp gIx (dVar 1) (dC (.int 1)))) sNext)
    (sSeq (sAsg (.nm 3) (dCall f_table_place (dCons (dVar 0) (dCons (dOp gIx (dVar 1) (dC (.int 1))) dNil))))
    (sSeq (sAsg (.nm 4) (dOp gIx (dVar 2) (dVar 3)))
    (sSeq (sIf (dBl (dOp gIs (dVar 4) (dC .non))) (sRet (dC .non)) sNext)
    (sRet (dOp gIx (dVar 4) (dCall f_column_place (dCons (dOp gIx (dVar 0) (dVar 3)) (dCons (dOp gIx (dVar 1) (dC (.int 2))) dNil)))))))))
noncomputable abbrev r_cell_at (f_column_place : Mir) (f_table_place : Mir) : Mir := runB 3 5 (m_cell_at f_column_place f_table_place)
noncomputable def m_holds (f_table_place : Mir) (f_holds : Mir) (f_cell_at : Mir) : Ev → Sto → AnsS :=
    (sSeq (sAsg (.nm 3) (dOp gIx (dVar 1) (dC (.int 0))))
    (sSeq (sIf (dBl (dOp gEq (dVar 3) (dC (.str (Str.ofString "="))))) (sRet (dOp gEq (dCall f_cell_at (dCons (dVar 0) (dCons (dOp gIx (dVar 1) (dC (.int 1))) (dCons (dVar 2) dNil)))) (dCall f_cell_at (dCons (dVar 0) (dCons (dOp gIx (dVar 1) (dC (.int 2))) (dCons (dVar 2) dNil)))))) sNext)
    (sSeq (sIf (dBl (dOp gEq (dVar 3) (dC (.str (Str.ofString "!="))))) (sRet (dOp gNe (dCall f_cell_at (dCons (dVar 0) (dCons (dOp gIx (dVar 1) (dC (.int 1))) (dCons (dVar 2) dNil)))) (dCall f_cell_at (dCons (dVar 0) (dCons (dOp gIx (dVar 1) (dC (.int 2))) (dCons (dVar 2) dNil)))))) sNext)
    (sSeq (sIf (dBl (dOp gEq (dVar 3) (dC (.str (Str.ofString "and"))))) (sSeq (sFor (wSeq (dOp gIx (dVar 1) (dC (.int 1)))) (.nm 4) (sIf (dNot (dTru (dCall f_holds (dCons (dVar 0) (dCons (dVar 4) (dCons (dVar 2) dNil)))))) (sRet (dC (.bl false))) sNext))
    (sRet (dC (.bl true)))) sNext)
    (sSeq (sIf (dBl (dOp gEq (dVar 3) (dC (.str (Str.ofString "or"))))) (sSeq (sFor (wSeq (dOp gIx (dVar 1) (dC (.int 1)))) (.nm 4) (sIf (dTru (dCall f_holds (dCons (dVar 0) (dCons (dVar 4) (dCons (dVar 2) dNil))))) (sRet (dC (.bl true))) sNext))
    (sRet (dC (.bl false)))) sNext)
    (sSeq (sIf (dBl (dOp gEq (dVar 3) (dC (.str (Str.ofString "not"))))) (sRet (dNotV (dCall f_holds (dCons (dVar 0) (dCons (dOp gIx (dVar 1) (dC (.int 1))) (dCons (dVar 2) dNil)))))) sNext)
    (sSeq (sIf (dBl (dOp gEq (dVar 3) (dC (.str (Str.ofString "exists"))))) (sRet (dOp gIsNot (dOp gIx (dVar 2) (dCall f_table_place (dCons (dVar 0) (dCons (dOp gIx (dVar 1) (dC (.int 1))) dNil)))) (dC .non))) sNext)
    (sRet (dOp gEq (dVar 3) (dC (.str (Str.ofString "true"))))))))))))
noncomputable abbrev r_holds (f_table_place : Mir) (f_holds : Mir) (f_cell_at : Mir) : Mir := runB 3 5 (m_holds f_table_place f_holds f_cell_at)
noncomputable def m__law_tape : Ev → Sto → AnsS :=
    (sSeq (sAsg (.nm 1) (dC (.int 7)))
    (sSeq (sFor (wSeq (dVar 0)) (.nm 2) (sAsg (.nm 1) (dOp gMod (dCB cInt (dCons (dOp gAdd (dOp gMul (dVar 1) (dC (.int 31))) (dCB cAbs (dCons (dCB cInt (dCons (dVar 2) dNil)) dNil))) dNil)) (dC (.int 2147483647)))))
    (sRet (dCB gLst (dCons (dCB cList (dCons (dVar 0) dNil)) (dCons (dC (.int 0)) (dCons (dC (.int 0)) (dCons (dVar 1) dNil))))))))
noncomputable abbrev r__law_tape : Mir := runB 1 3 (m__law_tape)
noncomputable def m__law_draw : Ev → Sto → AnsS :=
    (sSeq (sIf (dBl (dOp gEq (dOp gIx (dVar 0) (dC (.int 2))) (dC (.int 0)))) (sSeq (sAsg (.nm 2) (dOp gIx (dVar 0) (dC (.int 1))))
    (sSeq (sAsg (.nm 3) (dC (.int 0)))
    (sSeq (sIf (dBl (dOp gLt (dVar 2) (dCB cLen (dCons (dOp gIx (dVar 0) (dC (.int 0))) dNil)))) (sAsg (.nm 3) (dCB cAbs (dCons (dCB cInt (dCons (dOp gIx (dOp gIx (dVar 0) (dC (.int 0))) (dVar 2)) dNil)) dNil))) (sSeq (sSub gSetL (dOp gMod (dCB cInt (dCons (dOp gAdd (dOp gAdd (dOp gMul (dOp gIx (dVar 0) (dC (.int 3))) (dC (.int 48271))) (dVar 2)) (dC (.int 1))) dNil)) (dC (.int 2147483647))) (dVar 0) (dC (.int 3)))
    (sAsg (.nm 3) (dOp gIx (dVar 0) (dC (.int 3))))))
    (sSeq (sSub gSetL (dOp gAdd (dVar 2) (dC (.int 1))) (dVar 0) (dC (.int 1)))
    (sSeq (sIf (dBl (dOp gLt (dVar 3) (dOp gPow (dC (.int 10)) (dC (.int 18))))) (sSeq (sAsg (.nm 3) (dOp gMod (dCB cInt (dCons (dOp gAdd (dOp gAdd (dOp gMul (dVar 3) (dC (.int 48271))) (dOp gMul (dVar 2) (dC (.int 69621)))) (dC (.int 5))) dNil)) (dC (.int 2147483647))))
    (sSeq (sAsg (.nm 3) (dOp gMod (dCB cInt (dCons (dOp gMul (dVar 3) (dC (.int 69621))) dNil)) (dC (.int 2147483629))))
    (sRet (dOp gMod (dCB cInt (dCons (dVar 3) dNil)) (dCB cMax2 (dCons (dVar 1) (dCons (dC (.int 1)) dNil))))))) sNext)
    (sSub gSetL (dVar 3) (dVar 0) (dC (.int 2)))))))) sNext)
    (sSeq (sAsg (.nm 3) (dOp gIx (dVar 0) (dC (.int 2))))
    (sSeq (sSub gSetL (dOp gFdiv (dVar 3) (dCB cMax2 (dCons (dVar 1) (dCons (dC (.int 2)) dNil)))) (dVar 0) (dC (.int 2)))
    (sRet (dOp gMod (dCB cInt (dCons (dVar 3) dNil)) (dCB cMax2 (dCons (dVar 1) (dCons (dC (.int 1)) dNil))))))))
noncomputable abbrev r__law_draw : Mir := runB 2 4 (m__law_draw)
noncomputable def m__law_reserved : Ev → Sto → AnsS :=
    (sRet (dCB gLst (dCons (dC (.str (Str.ofString "table"))) (dCons (dC (.str (Str.ofString "optional"))) (dCons (dC (.str (Str.ofString "text"))) (dCons (dC (.str (Str.ofString "null"))) (dCons (dC (.str (Str.ofString "check"))) (dCons (dC (.str (Str.ofString "and"))) (dCons (dC (.str (Str.ofString "or"))) (dCons (dC (.str (Str.ofString "not"))) (dCons (dC (.str (Str.ofString "exists"))) (dCons (dC (.str (Str.ofString "true"))) (dCons (dC (.str (Str.ofString "false"))) (dCons (dC (.str (Str.ofString "if"))) (dCons (dC (.str (Str.ofString "then"))) (dCons (dC (.str (Str.ofString "else"))) (dCons (dC (.str (Str.ofString "drop"))) (dCons (dC (.str (Str.ofString "when"))) dNil))))))))))))))))))
noncomputable abbrev r__law_reserved : Mir := runB 0 0 (m__law_reserved)
noncomputable def m__law_words (f__law_reserved : Mir) (f__law_draw : Mir) : Ev → Sto → AnsS :=
    (sSeq (sAsg (.nm 3) (dC (.str (Str.ofString "abcdefghijklmnopqrstuvwxyz"))))
    (sSeq (sAsg (.nm 4) (dOp gAdd (dVar 3) (dC (.str (Str.ofString "0123456789_")))))
    (sSeq (sAsg (.nm 5) (dCall f__law_draw (dCons (dVar 0) (dCons (dC (.int 8)) dNil))))
    (sSeq (sAsg (.nm 6) (dCB gLst dNil))
    (sSeq (sFor (wRange (dCons (dVar 1) dNil)) (.nm 7) (sSeq (sAsg (.nm 8) (dCall f__law_draw (dCons (dVar 0) (dCons (dOp gMul (dOp gMul (dOp gMul (dC (.int 26)) (dC (.int 37))) (dC (.int 37))) (dC (.int 3))) dNil))))
    (sSeq (sAsg (.nm 9) (dOp gAdd (dOp gAdd (dOp gIx (dVar 3) (dOp gMod (dCB cInt (dCons (dVar 8) dNil)) (dC (.int 26)))) (dOp gIx (dVar 4) (dOp gMod (dCB cInt (dCons (dOp gFdiv (dVar 8) (dC (.int 26))) dNil)) (dC (.int 37))))) (dOp gIx (dVar 4) (dOp gMod (dCB cInt (dCons (dOp gFdiv (dVar 8) (dC (.int 962))) dNil)) (dC (.int 37))))))
    (sSeq (sAsg (.nm 9) (dSl (dVar 9) none (some (dOp gAdd (dC (.int 1)) (dOp gMod (dCB cInt (dCons (dOp gFdiv (dVar 8) (dC (.int 35594))) dNil)) (dC (.int 3)))))))
    (sSeq (sIf (dBl (dOp gEq (dVar 5) (dC (.int 1)))) (sAsg (.nm 9) (dOp gAdd (dC (.str (Str.ofString "customer_number_"))) (dVar 9))) sNext)
    (sSeq (sIf (dBl (dOp gEq (dVar 5) (dC (.int 2)))) (sAsg (.nm 9) (dOp gAdd (dVar 9) (dSl (dC (.str (Str.ofString "_of_the_customer_1"))) none (some (dOp gSub (dC (.int 20)) (dCB cLen (dCons (dVar 9) dNil))))))) sNext)
    (sSeq (sIf (dBl (dOp gEq (dVar 5) (dC (.int 3)))) (sAsg (.nm 9) (dOp gAdd (dOp gIx (dCall f__law_reserved dNil) (dOp gMod (dCB cInt (dCons (dVar 8) dNil)) (dC (.int 16)))) (dVar 9))) sNext)
    (sSeq (sAsg (.nm 10) (dVar 9))
    (sSeq (sFor (wRange (dCons (dOp gAdd (dOp gAdd (dCB cLen (dCons (dVar 6) dNil)) (dCB cLen (dCons (dVar 2) dNil))) (dC (.int 2))) dNil)) (.nm 11) (sSeq (sIf (dAnd (dBl (dOp gNotIn (dVar 9) (dVar 6))) (dAnd (dBl (dOp gNotIn (dVar 9) (dVar 2))) (dBl (dOp gNotIn (dVar 9) (dCall f__law_reserved dNil))))) sBreak sNext)
    (sAsg (.nm 9) (dOp gAdd (dOp gAdd (dSl (dVar 10) none (some (dC (.int 17)))) (dC (.str (Str.ofString "q")))) (dCB cStr (dCons (dVar 11) dNil))))))
    (sExpr (dM "list" mAppend (dVar 6) (dCons (dVar 9) dNil))))))))))))
    (sRet (dVar 6)))))))
noncomputable abbrev r__law_words (f__law_reserved : Mir) (f__law_draw : Mir) : Mir := runB 3 12 (m__law_words f__law_reserved f__law_draw)
noncomputable def m__law_text (f__law_draw : Mir) : Ev → Sto → AnsS :=
    (sSeq (sAsg (.nm 1) (dC (.str (Str.ofString " !#$&'()*+,-./0123456789:;<=>?@ABCDEFGHIJKLMNOPQRSTUVWXYZ[\\]^_`abcdefghijklmnopqrstuvwxyz{|}~"))))
    (sSeq (sAsg (.nm 2) (dCall f__law_draw (dCons (dVar 0) (dCons (dC (.int 24)) dNil))))
    (sSeq (sIf (dBl (dOp gLt (dVar 2) (dC (.int 12)))) (sRet (dOp gIx (dCB gLst (dCons (dC (.str (Str.ofString ""))) (dCons (dC (.str (Str.ofString "v1"))) (dCons (dC (.str (Str.ofString "v2"))) (dCons (dC (.str (Str.ofString "v3"))) (dCons (dC (.str (Str.ofString "c1"))) (dCons (dC (.str (Str.ofString "c2"))) (dCons (dC (.str (Str.ofString " "))) (dCons (dC (.str (Str.ofString "null"))) (dCons (dC (.str (Str.ofString "v01"))) (dCons (dC (.str (Str.ofString "V1"))) (dCons (dC (.str (Str.ofString "v10"))) (dCons (dC (.str (Str.ofString "x"))) dNil))))))))))))) (dVar 2))) sNext)
    (sSeq (sAsg (.nm 3) (dCall f__law_draw (dCons (dVar 0) (dCons (dOp gMul (dOp gMul (dC (.int 93)) (dC (.int 93))) (dC (.int 144))) dNil))))
    (sSeq (sAsg (.nm 4) (dOp gAdd (dC (.int 1)) (dOp gMod (dCB cInt (dCons (dVar 3) dNil)) (dC (.int 12)))))
    (sSeq (sAsg (.nm 5) (dOp gMod (dCB cInt (dCons (dOp gFdiv (dVar 3) (dC (.int 12))) dNil)) (dVar 4)))
    (sSeq (sAsg (.nm 6) (dOp gIx (dVar 1) (dOp gMod (dCB cInt (dCons (dOp gFdiv (dVar 3) (dC (.int 144))) dNil)) (dC (.int 93)))))
    (sRet (dOp gAdd (dOp gAdd (dOp gMul (dVar 6) (dVar 5)) (dOp gIx (dVar 1) (dOp gMod (dCB cInt (dCons (dOp gFdiv (dVar 3) (dC (.int 13392))) dNil)) (dC (.int 93))))) (dOp gMul (dVar 6) (dOp gSub (dOp gSub (dVar 4) (dVar 5)) (dC (.int 1)))))))))))))
noncomputable abbrev r__law_text (f__law_draw : Mir) : Mir := runB 1 7 (m__law_text f__law_draw)
noncomputable def m__law_texts (f__law_text : Mir) : Ev → Sto → AnsS :=
    (sSeq (sAsg (.nm 3) (dCB gLst dNil))
    (sSeq (sFor (wRange (dCons (dVar 1) dNil)) (.nm 4) (sSeq (sAsg (.nm 5) (dCall f__law_text (dCons (dVar 0) dNil)))
    (sSeq (sFor (wRange (dCons (dOp gAdd (dOp gAdd (dCB cLen (dCons (dVar 3) dNil)) (dCB cLen (dCons (dVar 2) dNil))) (dC (.int 3))) dNil)) (.nm 6) (sSeq (sIf (dAnd (dBl (dOp gNotIn (dVar 5) (dVar 3))) (dBl (dOp gNotIn (dVar 5) (dVar 2)))) sBreak sNext)
    (sAsg (.nm 5) (dOp gAdd (dC (.str (Str.ofString "t"))) (dCB cStr (dCons (dVar 6) dNil))))))
    (sExpr (dM "list" mAppend (dVar 3) (dCons (dVar 5) dNil))))))
    (sRet (dVar 3))))
noncomputable abbrev r__law_texts (f__law_text : Mir) : Mir := runB 3 7 (m__law_texts f__law_text)
noncomputable def m__law_many : Ev → Sto → AnsS :=
    (sSeq (sAsg (.nm 2) (dCB gLst (dCons (dC (.int 1)) dNil)))
    (sSeq (sFor (wSeq (dVar 0)) (.nm 3) (sSeq (sAsg (.nm 4) (dCB cList (dCons (dVar 2) dNil)))
    (sSeq (sFor (wSeq (dOp gIx (dVar 3) (dC (.int 2)))) (.nm 5) (sSeq (sAsg (.nm 6) (dCB cInt (dCons (dOp gIx (dVar 5) (dC (.int 2))) dNil)))
    (sIf (dBl (dOp gEq (dOp gIx (dVar 5) (dC (.int 1))) (dC (.str (Str.ofString "text"))))) (sSeq (sAsg (.nm 7) (dCB gLst dNil))
    (sSeq (sFor (wRange (dCons (dOp gAdd (dCB cLen (dCons (dVar 4) dNil)) (dC (.int 1))) dNil)) (.nm 8) (sSeq (sAsg (.nm 9) (dC (.int 0)))
    (sSeq (sIf (dBl (dOp gLt (dVar 8) (dCB cLen (dCons (dVar 4) dNil)))) (sAsg (.nm 9) (dOp gMul (dOp gAdd (dOp gAdd (dVar 1) (dVar 8)) (dVar 6)) (dOp gIx (dVar 4) (dVar 8)))) sNext)
    (sSeq (sIf (dBl (dOp gGt (dVar 8) (dC (.int 0)))) (sAsg (.nm 9) (dOp gAdd (dVar 9) (dOp gIx (dVar 4) (dOp gSub (dVar 8) (dC (.int 1)))))) sNext)
    (sExpr (dM "list" mAppend (dVar 7) (dCons (dVar 9) dNil)))))))
    (sAsg (.nm 4) (dVar 7)))) (sAsg (.nm 4) (dLc (wSeq (dVar 4)) (.nm 9) dTrue (dOp gMul (dVar 9) (dOp gAdd (dCB cLen (dCons (dOp gIx (dVar 5) (dC (.int 1))) dNil)) (dVar 6))) [9])))))
    (sSeq (sIf (dTru (dOp gIx (dVar 3) (dC (.int 1)))) (sFor (wRange (dCons (dCB cLen (dCons (dVar 2) dNil)) dNil)) (.nm 8) (sSub gSetL (dOp gAdd (dOp gIx (dVar 4) (dVar 8)) (dOp gIx (dVar 2) (dVar 8))) (dVar 4) (dVar 8))) sNext)
    (sAsg (.nm 2) (dVar 4))))))
    (sRet (dCB cSum (dCons (dVar 2) dNil)))))
noncomputable abbrev r__law_many : Mir := runB 2 10 (m__law_many)
noncomputable def m__law_textual : Ev → Sto → AnsS :=
    (sSeq (sAsg (.nm 1) (dCB gLst dNil))
    (sSeq (sFor (wSeq (dVar 0)) (.nm 2) (sAsg (.nm 1) (dOp gAdd (dVar 1) (dLc (wSeq (dOp gIx (dVar 2) (dC (.int 2)))) (.nm 3) (dBl (dOp gEq (dOp gIx (dVar 3) (dC (.int 1))) (dC (.str (Str.ofString "text"))))) (dCB gTup (dCons (dOp gIx (dVar 2) (dC (.int 0))) (dCons (dOp gIx (dVar 3) (dC (.int 0))) dNil))) [3]))))
    (sRet (dVar 1))))
noncomputable abbrev r__law_textual : Mir := runB 1 4 (m__law_textual)
noncomputable def m__law_tables (f__law_words : Mir) (f__law_draw : Mir) (f__law_many : Mir) (f__law_textual : Mir) : Ev → Sto → AnsS :=
    (sSeq (sAsg (.nm 4) (dCB gLst dNil))
    (sSeq (sFor (wSeq (dCall f__law_words (dCons (dVar 0) (dCons (dOp gIx (dCB gLst (dCons (dC (.int 1)) (dCons (dC (.int 1)) (dCons (dC (.int 1)) (dCons (dC (.int 2)) (dCons (dC (.int 2)) (dCons (dC (.int 3)) dNil))))))) (dCall f__law_draw (dCons (dVar 0) (dCons (dC (.int 6)) dNil)))) (dCons (dCB gLst dNil) dNil))))) (.nm 5) (sSeq (sAsg (.nm 6) (dOp gEq (dCall f__law_draw (dCons (dVar 0) (dCons (dC (.int 3)) dNil))) (dC (.int 0))))
    (sSeq (sAsg (.nm 7) (dCB gLst dNil))
    (sSeq (sFor (wSeq (dCall f__law_words (dCons (dVar 0) (dCons (dOp gIx (dCB gLst (dCons (dC (.int 1)) (dCons (dC (.int 1)) (dCons (dC (.int 2)) (dCons (dC (.int 2)) (dCons (dC (.int 3)) (dCons (dC (.int 4)) dNil))))))) (dCall f__law_draw (dCons (dVar 0) (dCons (dC (.int 6)) dNil)))) (dCons (dCB gLst dNil) dNil))))) (.nm 8) (sSeq (sAsg (.nm 9) (dC (.str (Str.ofString "text"))))
    (sSeq (sIf (dOr (dBl (dOp gLt (dCall f__law_draw (dCons (dVar 0) (dCons (dC (.int 5)) dNil))) (dC (.int 2)))) (dBl (dOp gGe (dCB cLen (dCons (dCall f__law_textual (dCons (dOp gAdd (dVar 4) (dCB gLst (dCons (dCB gTup (dCons (dVar 5) (dCons (dVar 6) (dCons (dVar 7) dNil)))) dNil))) dNil)) dNil)) (dVar 3)))) (sAsg (.nm 9) (dCB cTuple (dCons (dCall f__law_words (dCons (dVar 0) (dCons (dOp gIx (dCB gLst (dCons (dC (.int 1)) (dCons (dC (.int 2)) (dCons (dC (.int 3)) (dCons (dC (.int 1)) (dCons (dC (.int 2)) (dCons (dC (.int 3)) (dCons (dC (.int 2)) (dCons (dC (.int 7)) dNil))))))))) (dCall f__law_draw (dCons (dVar 0) (dCons (dC (.int 8)) dNil)))) (dCons (dCB gLst dNil) dNil)))) dNil))) sNext)
    (sSeq (sAsg (.nm 10) (dCB gTup (dCons (dVar 8) (dCons (dVar 9) (dCons (dOp gEq (dCall f__law_draw (dCons (dVar 0) (dCons (dC (.int 3)) dNil))) (dC (.int 0))) dNil)))))
    (sSeq (sAsg (.nm 11) (dOp gAdd (dCB cSum (dCons (dLc (wSeq (dVar 4)) (.nm 12) dTrue (dCB cLen (dCons (dOp gIx (dVar 12) (dC (.int 2))) dNil)) [12]) dNil)) (dCB cLen (dCons (dVar 7) dNil))))
    (sIf (dAnd (dBl (dOp gLt (dVar 11) (dC (.int 6)))) (dBl (dOp gLe (dCall f__law_many (dCons (dOp gAdd (dVar 4) (dCB gLst (dCons (dCB gTup (dCons (dVar 5) (dCons (dVar 6) (dCons (dOp gAdd (dVar 7) (dCB gLst (dCons (dVar 10) dNil))) dNil)))) dNil))) (dCons (dVar 2) dNil))) (dVar 1)))) (sExpr (dM "list" mAppend (dVar 7) (dCons (dVar 10) dNil))) sNext))))))
    (sSeq (sIf (dNot (dTru (dVar 7))) (sExpr (dM "list" mAppend (dVar 7) (dCons (dCB gTup (dCons (dC (.str (Str.ofString "only"))) (dCons (dCB gTup (dCons (dC (.str (Str.ofString "one"))) dNil)) (dCons (dC (.bl false)) dNil)))) dNil))) sNext)
    (sSeq (sAsg (.nm 11) (dOp gAdd (dCB cSum (dCons (dLc (wSeq (dVar 4)) (.nm 12) dTrue (dCB cLen (dCons (dOp gIx (dVar 12) (dC (.int 2))) dNil)) [12]) dNil)) (dCB cLen (dCons (dVar 7) dNil))))
    (sIf (dOr (dNot (dTru (dVar 4))) (dAnd (dBl (dOp gLe (dVar 11) (dC (.int 6)))) (dBl (dOp gLe (dCall f__law_many (dCons (dOp gAdd (dVar 4) (dCB gLst (dCons (dCB gTup (dCons (dVar 5) (dCons (dVar 6) (dCons (dVar 7) dNil)))) dNil))) (dCons (dVar 2) dNil))) (dVar 1))))) (sExpr (dM "list" mAppend (dVar 4) (dCons (dCB gTup (dCons (dVar 5) (dCons (dVar 6) (dCons (dCB cTuple (dCons (dVar 7) dNil)) dNil)))) dNil))) sNext)))))))
    (sRet (dCB cTuple (dCons (dVar 4) dNil)))))
noncomputable abbrev r__law_tables (f__law_words : Mir) (f__law_draw : Mir) (f__law_many : Mir) (f__law_textual : Mir) : Mir := runB 4 13 (m__law_tables f__law_words f__law_draw f__law_many f__law_textual)
noncomputable def m__law_value_words : Ev → Sto → AnsS :=
    (sSeq (sAsg (.nm 1) (dCB gLst (dCons (dC (.str (Str.ofString "stranger"))) dNil)))
    (sSeq (sFor (wSeq (dVar 0)) (.nm 2) (sFor (wSeq (dOp gIx (dVar 2) (dC (.int 2)))) (.nm 3) (sIf (dBl (dOp gNe (dOp gIx (dVar 3) (dC (.int 1))) (dC (.str (Str.ofString "text"))))) (sSeq (sAsg (.nm 4) (dOp gAdd (dSl (dOp gIx (dVar 3) (dC (.int 1))) none (some (dC (.int 3)))) (dSl (dOp gIx (dVar 3) (dC (.int 1))) (some (dOp gSub (dCB cLen (dCons (dOp gIx (dVar 3) (dC (.int 1))) dNil)) (dC (.int 1)))) none)))
    (sAsg (.nm 1) (dOp gAdd (dVar 1) (dLc (wSeq (dVar 4)) (.nm 5) (dBl (dOp gNotIn (dVar 5) (dVar 1))) (dVar 5) [5])))) sNext)))
    (sRet (dVar 1))))
noncomputable abbrev r__law_value_words : Mir := runB 1 6 (m__law_value_words)
noncomputable def m__law_operand (f__law_draw : Mir) : Ev → Sto → AnsS :=
    (sSeq (sAsg (.nm 5) (dCB gLst dNil))
    (sSeq (sFor (wSeq (dVar 1)) (.nm 6) (sAsg (.nm 5) (dOp gAdd (dVar 5) (dLc (wSeq (dOp gIx (dVar 6) (dC (.int 2)))) (.nm 9) (dBl (dOp gEq (dOp gEq (dOp gIx (dVar 9) (dC (.int 1))) (dC (.str (Str.ofString "text")))) (dVar 4))) (dCB gTup (dCons (dOp gIx (dVar 6) (dC (.int 0))) (dCons (dOp gIx (dVar 9) (dC (.int 0))) dNil))) [9]))))
    (sSeq (sAsg (.nm 7) (dCall f__law_draw (dCons (dVar 0) (dCons (dC (.int 6)) dNil))))
    (sSeq (sIf (dAnd (dBl (dOp gGt (dVar 7) (dC (.int 1)))) (dTru (dVar 5))) (sSeq (sAsg (.nm 8) (dOp gIx (dVar 5) (dCall f__law_draw (dCons (dVar 0) (dCons (dCB cLen (dCons (dVar 5) dNil)) dNil)))))
    (sRet (dCB gTup (dCons (dC (.str (Str.ofString "column"))) (dCons (dOp gIx (dVar 8) (dC (.int 0))) (dCons (dOp gIx (dVar 8) (dC (.int 1))) dNil)))))) sNext)
    (sSeq (sIf (dAnd (dBl (dOp gGt (dVar 7) (dC (.int 0)))) (dAnd (dTru (dVar 4)) (dTru (dVar 2)))) (sRet (dCB gTup (dCons (dC (.str (Str.ofString "cell"))) (dCons (dOp gIx (dVar 2) (dCall f__law_draw (dCons (dVar 0) (dCons (dCB cLen (dCons (dVar 2) dNil)) dNil)))) dNil)))) sNext)
    (sSeq (sIf (dAnd (dBl (dOp gGt (dVar 7) (dC (.int 0)))) (dAnd (dTru (dVar 3)) (dNot (dTru (dVar 4))))) (sRet (dCB gTup (dCons (dC (.str (Str.ofString "cell"))) (dCons (dCB gTup (dCons (dOp gIx (dVar 3) (dCall f__law_draw (dCons (dVar 0) (dCons (dCB cLen (dCons (dVar 3) dNil)) dNil)))) dNil)) dNil)))) sNext)
    (sRet (dCB gTup (dCons (dC (.str (Str.ofString "cell"))) (dCons (dC .non) dNil))))))))))
noncomputable abbrev r__law_operand (f__law_draw : Mir) : Mir := runB 5 10 (m__law_operand f__law_draw)
noncomputable def m__law_condition (f__law_operand : Mir) (f__law_draw : Mir) (f__law_textual : Mir) (f__law_condition : Mir) : Ev → Sto → AnsS :=
    (sSeq (sAsg (.nm 5) (dCall f__law_draw (dCons (dVar 0) (dCons (dC (.int 10)) dNil))))
    (sSeq (sIf (dAnd (dBl (dOp gGt (dVar 4) (dC (.int 0)))) (dBl (dOp gEq (dVar 5) (dC (.int 0))))) (sRet (dCB gTup (dCons (dC (.str (Str.ofString "not"))) (dCons (dCall f__law_condition (dCons (dVar 0) (dCons (dVar 1) (dCons (dVar 2) (dCons (dVar 3) (dCons (dOp gSub (dVar 4) (dC (.int 1))) dNil)))))) dNil)))) sNext)
    (sSeq (sIf (dAnd (dBl (dOp gGt (dVar 4) (dC (.int 0)))) (dBl (dOp gLt (dVar 5) (dC (.int 4))))) (sSeq (sAsg (.nm 6) (dCB gLst dNil))
    (sSeq (sAsg (.nm 7) (dOp gIx (dCB gLst (dCons (dC (.int 2)) (dCons (dC (.int 2)) (dCons (dC (.int 2)) (dCons (dC (.int 3)) (dCons (dC (.int 2)) (dCons (dC (.int 6)) dNil))))))) (dCall f__law_draw (dCons (dVar 0) (dCons (dOp gIx (dCB gLst (dCons (dC (.int 4)) (dCons (dC (.int 6)) dNil))) (dCB cInt (dCons (dOp gEq (dVar 4) (dC (.int 1))) dNil))) dNil)))))
    (sSeq (sFor (wRange (dCons (dVar 7) dNil)) (.nm 8) (sExpr (dM "list" mAppend (dVar 6) (dCons (dCall f__law_condition (dCons (dVar 0) (dCons (dVar 1) (dCons (dVar 2) (dCons (dVar 3) (dCons (dOp gSub (dVar 4) (dC (.int 1))) dNil)))))) dNil))))
    (sRet (dCB gTup (dCons (dOp gIx (dCB gLst (dCons (dC (.str (Str.ofString "and"))) (dCons (dC (.str (Str.ofString "or"))) dNil))) (dOp gMod (dCB cInt (dCons (dVar 5) dNil)) (dC (.int 2)))) (dCons (dCB cTuple (dCons (dVar 6) dNil)) dNil))))))) sNext)
    (sSeq (sIf (dBl (dOp gEq (dVar 5) (dC (.int 4)))) (sRet (dOp gIx (dCB gLst (dCons (dCB gTup (dCons (dC (.str (Str.ofString "true"))) dNil)) (dCons (dCB gTup (dCons (dC (.str (Str.ofString "false"))) dNil)) (dCons (dCB gTup (dCons (dC (.str (Str.ofString "exists"))) (dCons (dOp gIx (dOp gIx (dVar 1) (dCall f__law_draw (dCons (dVar 0) (dCons (dCB cLen (dCons (dVar 1) dNil)) dNil)))) (dC (.int 0))) dNil))) dNil)))) (dCall f__law_draw (dCons (dVar 0) (dCons (dC (.int 3)) dNil))))) sNext)
    (sSeq (sAsg (.nm 9) (dOp gGt (dCall f__law_draw (dCons (dVar 0) (dCons (dC (.int 3)) dNil))) (dC (.int 0))))
    (sSeq (sIf (dNot (dTru (dCall f__law_textual (dCons (dVar 1) dNil)))) (sAsg (.nm 9) (dC (.bl false))) sNext)
    (sSeq (sAsg (.nm 10) (dCall f__law_operand (dCons (dVar 0) (dCons (dVar 1) (dCons (dVar 2) (dCons (dVar 3) (dCons (dVar 9) dNil)))))))
    (sRet (dCB gTup (dCons (dOp gIx (dCB gLst (dCons (dC (.str (Str.ofString "="))) (dCons (dC (.str (Str.ofString "!="))) dNil))) (dCall f__law_draw (dCons (dVar 0) (dCons (dC (.int 2)) dNil)))) (dCons (dVar 10) (dCons (dCall f__law_operand (dCons (dVar 0) (dCons (dVar 1) (dCons (dVar 2) (dCons (dVar 3) (dCons (dVar 9) dNil)))))) dNil))))))))))))
noncomputable abbrev r__law_condition (f__law_operand : Mir) (f__law_draw : Mir) (f__law_textual : Mir) (f__law_condition : Mir) : Mir := runB 5 11 (m__law_condition f__law_operand f__law_draw f__law_textual f__law_condition)
noncomputable def m__law_shape (f__law_draw : Mir) : Ev → Sto → AnsS :=
    (sSeq (sAsg (.nm 3) (dCB gLst dNil))
    (sSeq (sFor (wSeq (dVar 1)) (.nm 4) (sSeq (sAsg (.nm 5) (dCB gLst dNil))
    (sSeq (sFor (wSeq (dOp gIx (dVar 4) (dC (.int 2)))) (.nm 6) (sSeq (sAsg (.nm 7) (dOp gAdd (dCB cList (dCons (dVar 2) dNil)) (dCB gLst (dCons (dC .non) dNil))))
    (sSeq (sIf (dBl (dOp gNe (dOp gIx (dVar 6) (dC (.int 1))) (dC (.str (Str.ofString "text"))))) (sAsg (.nm 7) (dOp gAdd (dLc (wSeq (dOp gIx (dVar 6) (dC (.int 1)))) (.nm 8) dTrue (dCB gTup (dCons (dVar 8) dNil)) [8]) (dCB gLst (dCons (dCB gTup (dCons (dC (.str (Str.ofString "unknown_value"))) dNil)) (dCons (dC .non) dNil))))) sNext)
    (sExpr (dM "list" mAppend (dVar 5) (dCons (dOp gIx (dVar 7) (dCall f__law_draw (dCons (dVar 0) (dCons (dCB cLen (dCons (dVar 7) dNil)) dNil)))) dNil))))))
    (sIf (dBl (dOp gEq (dCall f__law_draw (dCons (dVar 0) (dCons (dC (.int 4)) dNil))) (dC (.int 0)))) (sExpr (dM "list" mAppend (dVar 3) (dCons (dC .non) dNil))) (sExpr (dM "list" mAppend (dVar 3) (dCons (dCB cTuple (dCons (dVar 5) dNil)) dNil)))))))
    (sRet (dCB cTuple (dCons (dVar 3) dNil)))))
noncomputable abbrev r__law_shape (f__law_draw : Mir) : Mir := runB 3 9 (m__law_shape f__law_draw)
noncomputable def m__law_cell : Ev → Sto → AnsS :=
    (sSeq (sIf (dBl (dOp gEq (dOp gIx (dVar 1) (dC (.int 0))) (dC (.str (Str.ofString "cell"))))) (sRet (dOp gIx (dVar 1) (dC (.int 1)))) sNext)
    (sSeq (sFor (wRange (dCons (dCB cLen (dCons (dVar 0) dNil)) dNil)) (.nm 3) (sIf (dAnd (dBl (dOp gEq (dOp gIx (dOp gIx (dVar 0) (dVar 3)) (dC (.int 0))) (dOp gIx (dVar 1) (dC (.int 1))))) (dBl (dOp gIsNot (dOp gIx (dVar 2) (dVar 3)) (dC .non)))) (sFor (wRange (dCons (dCB cLen (dCons (dOp gIx (dOp gIx (dVar 0) (dVar 3)) (dC (.int 2))) dNil)) dNil)) (.nm 4) (sIf (dBl (dOp gEq (dOp gIx (dOp gIx (dOp gIx (dOp gIx (dVar 0) (dVar 3)) (dC (.int 2))) (dVar 4)) (dC (.int 0))) (dOp gIx (dVar 1) (dC (.int 2))))) (sRet (dOp gIx (dOp gIx (dVar 2) (dVar 3)) (dVar 4))) sNext)) sNext))
    (sRet (dC .non))))
noncomputable abbrev r__law_cell : Mir := runB 3 5 (m__law_cell)
noncomputable def m__law_holds (f__law_holds : Mir) (f__law_cell : Mir) : Ev → Sto → AnsS :=
    (sSeq (sIf (dOr (dBl (dOp gEq (dOp gIx (dVar 1) (dC (.int 0))) (dC (.str (Str.ofString "true"))))) (dBl (dOp gEq (dOp gIx (dVar 1) (dC (.int 0))) (dC (.str (Str.ofString "false")))))) (sRet (dOp gEq (dOp gIx (dVar 1) (dC (.int 0))) (dC (.str (Str.ofString "true"))))) sNext)
    (sSeq (sIf (dBl (dOp gEq (dOp gIx (dVar 1) (dC (.int 0))) (dC (.str (Str.ofString "exists"))))) (sSeq (sFor (wRange (dCons (dCB cLen (dCons (dVar 0) dNil)) dNil)) (.nm 3) (sIf (dBl (dOp gEq (dOp gIx (dOp gIx (dVar 0) (dVar 3)) (dC (.int 0))) (dOp gIx (dVar 1) (dC (.int 1))))) (sRet (dOp gIsNot (dOp gIx (dVar 2) (dVar 3)) (dC .non))) sNext))
    (sRet (dC (.bl false)))) sNext)
    (sSeq (sIf (dOr (dBl (dOp gEq (dOp gIx (dVar 1) (dC (.int 0))) (dC (.str (Str.ofString "="))))) (dBl (dOp gEq (dOp gIx (dVar 1) (dC (.int 0))) (dC (.str (Str.ofString "!=")))))) (sSeq (sAsg (.nm 4) (dOp gEq (dCall f__law_cell (dCons (dVar 0) (dCons (dOp gIx (dVar 1) (dC (.int 1))) (dCons (dVar 2) dNil)))) (dCall f__law_cell (dCons (dVar 0) (dCons (dOp gIx (dVar 1) (dC (.int 2))) (dCons (dVar 2) dNil))))))
    (sRet (dOp gEq (dVar 4) (dOp gEq (dOp gIx (dVar 1) (dC (.int 0))) (dC (.str (Str.ofString "="))))))) sNext)
    (sSeq (sIf (dBl (dOp gEq (dOp gIx (dVar 1) (dC (.int 0))) (dC (.str (Str.ofString "not"))))) (sRet (dNotV (dCall f__law_holds (dCons (dVar 0) (dCons (dOp gIx (dVar 1) (dC (.int 1))) (dCons (dVar 2) dNil)))))) sNext)
    (sSeq (sFor (wSeq (dOp gIx (dVar 1) (dC (.int 1)))) (.nm 5) (sIf (dBl (dOp gNe (dCall f__law_holds (dCons (dVar 0) (dCons (dVar 5) (dCons (dVar 2) dNil)))) (dOp gEq (dOp gIx (dVar 1) (dC (.int 0))) (dC (.str (Str.ofString "and")))))) (sRet (dOp gEq (dOp gIx (dVar 1) (dC (.int 0))) (dC (.str (Str.ofString "or"))))) sNext))
    (sRet (dOp gEq (dOp gIx (dVar 1) (dC (.int 0))) (dC (.str (Str.ofString "and"))))))))))
noncomputable abbrev r__law_holds (f__law_holds : Mir) (f__law_cell : Mir) : Mir := runB 3 6 (m__law_holds f__law_holds f__law_cell)
noncomputable def m__law_deepened (f__law_draw : Mir) : Ev → Sto → AnsS :=
    (sSeq (sFor (wRange (dCons (dVar 2) dNil)) (.nm 3) (sSeq (sAsg (.nm 4) (dCall f__law_draw (dCons (dVar 0) (dCons (dC (.int 3)) dNil))))
    (sSeq (sIf (dBl (dOp gEq (dVar 4) (dC (.int 0)))) (sAsg (.nm 1) (dCB gTup (dCons (dC (.str (Str.ofString "not"))) (dCons (dVar 1) dNil)))) sNext)
    (sSeq (sIf (dBl (dOp gEq (dVar 4) (dC (.int 1)))) (sAsg (.nm 1) (dCB gTup (dCons (dC (.str (Str.ofString "and"))) (dCons (dCB gTup (dCons (dCB gTup (dCons (dC (.str (Str.ofString "true"))) dNil)) (dCons (dVar 1) dNil))) dNil)))) sNext)
    (sIf (dBl (dOp gEq (dVar 4) (dC (.int 2)))) (sAsg (.nm 1) (dCB gTup (dCons (dC (.str (Str.ofString "or"))) (dCons (dCB gTup (dCons (dVar 1) (dCons (dCB gTup (dCons (dC (.str (Str.ofString "false"))) dNil)) dNil))) dNil)))) sNext)))))
    (sRet (dVar 1)))
noncomputable abbrev r__law_deepened (f__law_draw : Mir) : Mir := runB 3 5 (m__law_deepened f__law_draw)
noncomputable def m__law_large (f__law_draw : Mir) (f__law_words : Mir) : Ev → Sto → AnsS :=
    (sSeq (sAsg (.nm 2) (dCall f__law_words (dCons (dVar 0) (dCons (dOp gAdd (dC (.int 1)) (dCall f__law_draw (dCons (dVar 0) (dCons (dC (.int 8)) dNil)))) (dCons (dCB gLst dNil) dNil)))))
    (sSeq (sAsg (.nm 3) (dC (.int 20)))
    (sSeq (sAsg (.nm 4) (dCB gLst dNil))
    (sSeq (sFor (wRange (dCons (dCB cLen (dCons (dVar 2) dNil)) dNil)) (.nm 5) (sSeq (sAsg (.nm 6) (dCB cMin2 (dCons (dOp gAdd (dC (.int 1)) (dCall f__law_draw (dCons (dVar 0) (dCons (dC (.int 4)) dNil)))) (dCons (dOp gSub (dVar 3) (dOp gSub (dOp gSub (dCB cLen (dCons (dVar 2) dNil)) (dC (.int 1))) (dVar 5))) dNil))))
    (sSeq (sAsg (.nm 7) (dCB gLst dNil))
    (sSeq (sFor (wSeq (dCall f__law_words (dCons (dVar 0) (dCons (dVar 6) (dCons (dCB gLst dNil) dNil))))) (.nm 8) (sSeq (sAsg (.nm 9) (dCall f__law_draw (dCons (dVar 0) (dCons (dC (.int 4)) dNil))))
    (sSeq (sAsg (.nm 10) (dC (.str (Str.ofString "text"))))
    (sSeq (sIf (dBl (dOp gEq (dVar 9) (dC (.int 0)))) (sAsg (.nm 10) (dCB cTuple (dCons (dLc (wRange (dCons (dOp gIx (dCB gLst (dCons (dC (.int 1)) (dCons (dC (.int 2)) (dCons (dC (.int 7)) (dCons (dVar 1) dNil))))) (dCall f__law_draw (dCons (dVar 0) (dCons (dC (.int 4)) dNil)))) dNil)) (.nm 11) dTrue (dOp gAdd (dC (.str (Str.ofString "w"))) (dCB cStr (dCons (dVar 11) dNil))) [11]) dNil))) sNext)
    (sSeq (sIf (dBl (dOp gEq (dVar 9) (dC (.int 1)))) (sAsg (.nm 10) (dCB cTuple (dCons (dCall f__law_words (dCons (dVar 0) (dCons (dOp gAdd (dC (.int 1)) (dCall f__law_draw (dCons (dVar 0) (dCons (dC (.int 3)) dNil)))) (dCons (dCB gLst dNil) dNil)))) dNil))) sNext)
    (sExpr (dM "list" mAppend (dVar 7) (dCons (dCB gTup (dCons (dVar 8) (dCons (dVar 10) (dCons (dOp gEq (dCall f__law_draw (dCons (dVar 0) (dCons (dC (.int 2)) dNil))) (dC (.int 0))) dNil)))) dNil))))))))
    (sSeq (sAsg (.nm 3) (dOp gSub (dVar 3) (dVar 6)))
    (sExpr (dM "list" mAppend (dVar 4) (dCons (dCB gTup (dCons (dOp gIx (dVar 2) (dVar 5)) (dCons (dOp gEq (dCall f__law_draw (dCons (dVar 0) (dCons (dC (.int 2)) dNil))) (dC (.int 0))) (dCons (dCB cTuple (dCons (dVar 7) dNil)) dNil)))) dNil))))))))
    (sRet (dCB cTuple (dCons (dVar 4) dNil)))))))
noncomputable abbrev r__law_large (f__law_draw : Mir) (f__law_words : Mir) : Mir := runB 2 12 (m__law_large f__law_draw f__law_words)
noncomputable def m__law_any_tables (f__law_tables : Mir) (f__law_draw : Mir) (f__law_large : Mir) : Ev → Sto → AnsS :=
    (sSeq (sIf (dBl (dOp gEq (dCall f__law_draw (dCons (dVar 0) (dCons (dC (.int 8)) dNil))) (dC (.int 0)))) (sRet (dCall f__law_large (dCons (dVar 0) (dCons (dVar 1) dNil)))) sNext)
    (sRet (dCall f__law_tables (dCons (dVar 0) (dCons (dOp gPow (dC (.int 10)) (dC (.int 9))) (dCons (dC (.int 3)) (dCons (dC (.int 6)) dNil)))))))
noncomputable abbrev r__law_any_tables (f__law_tables : Mir) (f__law_draw : Mir) (f__law_large : Mir) : Mir := runB 2 2 (m__law_any_tables f__law_tables f__law_draw f__law_large)
noncomputable def m_law (f_holds : Mir) (f__law_holds : Mir) (f__law_shape : Mir) (f__law_texts : Mir) (f__law_draw : Mir) (f__law_deepened : Mir) (f__law_condition : Mir) (f__law_value_words : Mir) (f__law_any_tables : Mir) (f__law_tape : Mir) : Ev → Sto → AnsS :=
    (sSeq (sAsg (.nm 1) (dCall f__law_tape (dCons (dVar 0) dNil)))
    (sSeq (sAsg (.nm 2) (dCall f__law_texts (dCons (dVar 1) (dCons (dCall f__law_draw (dCons (dVar 1) (dCons (dC (.int 4)) dNil))) (dCons (dCB gLst dNil) dNil)))))
    (sSeq (sAsg (.nm 3) (dCall f__law_any_tables (dCons (dVar 1) (dCons (dC (.int 7)) dNil))))
    (sSeq (sAsg (.nm 4) (dCall f__law_condition (dCons (dVar 1) (dCons (dVar 3) (dCons (dVar 2) (dCons (dCall f__law_value_words (dCons (dVar 3) dNil)) (dCons (dOp gIx (dCB gLst (dCons (dC (.int 0)) (dCons (dC (.int 1)) (dCons (dC (.int 2)) (dCons (dC (.int 3)) dNil))))) (dCall f__law_draw (dCons (dVar 1) (dCons (dC (.int 4)) dNil)))) dNil)))))))
    (sSeq (sIf (dBl (dOp gEq (dCall f__law_draw (dCons (dVar 1) (dCons (dC (.int 8)) dNil))) (dC (.int 0)))) (sAsg (.nm 4) (dCall f__law_deepened (dCons (dVar 1) (dCons (dVar 4) (dCons (dC (.int 6)) dNil))))) sNext)
    (sSeq (sAsg (.nm 5) (dOp gAdd (dVar 2) (dCall f__law_texts (dCons (dVar 1) (dCons (dC (.int 2)) (dCons (dVar 2) dNil))))))
    (sSeq (sAsg (.nm 6) (dCall f__law_shape (dCons (dVar 1) (dCons (dVar 3) (dCons (dVar 5) dNil)))))
    (sSeq (sAsg (.nm 7) (dCall f__law_holds (dCons (dVar 3) (dCons (dVar 4) (dCons (dVar 6) dNil)))))
    (sSeq (sAsg (.nm 8) (dCall f_holds (dCons (dVar 3) (dCons (dVar 4) (dCons (dVar 6) dNil)))))
    (sSeq (sIf (dOr (dNot (dTru (dIsi "bool" (dVar 8)))) (dBl (dOp gNe (dVar 8) (dVar 7)))) (sRet (dC (.bl false))) sNext)
    (sSeq (sAsg (.nm 9) (dCall f_holds (dCons (dVar 3) (dCons (dCB gTup (dCons (dC (.str (Str.ofString "not"))) (dCons (dVar 4) dNil))) (dCons (dVar 6) dNil)))))
    (sRet (dAndV (dIsi "bool" (dVar 9)) (dAndV (dOp gNe (dVar 9) (dVar 7)) (dOp gEq (dCall f_holds (dCons (dVar 3) (dCons (dVar 4) (dCons (dVar 6) dNil)))) (dVar 7))))))))))))))))
noncomputable abbrev r_law (f_holds : Mir) (f__law_holds : Mir) (f__law_shape : Mir) (f__law_texts : Mir) (f__law_draw : Mir) (f__law_deepened : Mir) (f__law_condition : Mir) (f__law_value_words : Mir) (f__law_any_tables : Mir) (f__law_tape : Mir) : Mir := runB 1 10 (m_law f_holds f__law_holds f__law_shape f__law_texts f__law_draw f__law_deepened f__law_condition f__law_value_words f__law_any_tables f__law_tape)
noncomputable def F_table_place : Mir := r_table_place
noncomputable def F_column_place : Mir := r_column_place
noncomputable def F_cell_at : Mir := r_cell_at F_column_place F_table_place
noncomputable def Fn_holds : Nat → Mir
  | 0 => fun _ _ => none
  | n + 1 => r_holds F_table_place (Fn_holds n) F_cell_at
noncomputable abbrev F_holds : Mir := Fn_holds 40
noncomputable def F__law_tape : Mir := r__law_tape
noncomputable def F__law_draw : Mir := r__law_draw
noncomputable def F__law_reserved : Mir := r__law_reserved
noncomputable def F__law_words : Mir := r__law_words F__law_reserved F__law_draw
noncomputable def F__law_text : Mir := r__law_text F__law_draw
noncomputable def F__law_texts : Mir := r__law_texts F__law_text
noncomputable def F__law_many : Mir := r__law_many
noncomputable def F__law_textual : Mir := r__law_textual
noncomputable def F__law_tables : Mir := r__law_tables F__law_words F__law_draw F__law_many F__law_textual
noncomputable def F__law_value_words : Mir := r__law_value_words
noncomputable def F__law_operand : Mir := r__law_operand F__law_draw
noncomputable def Fn__law_condition : Nat → Mir
  | 0 => fun _ _ => none
  | n + 1 => r__law_condition F__law_operand F__law_draw F__law_textual (Fn__law_condition n)
noncomputable abbrev F__law_condition : Mir := Fn__law_condition 40
noncomputable def F__law_shape : Mir := r__law_shape F__law_draw
noncomputable def F__law_cell : Mir := r__law_cell
noncomputable def Fn__law_holds : Nat → Mir
  | 0 => fun _ _ => none
  | n + 1 => r__law_holds (Fn__law_holds n) F__law_cell
noncomputable abbrev F__law_holds : Mir := Fn__law_holds 40
noncomputable def F__law_deepened : Mir := r__law_deepened F__law_draw
noncomputable def F__law_large : Mir := r__law_large F__law_draw F__law_words
noncomputable def F__law_any_tables : Mir := r__law_any_tables F__law_tables F__law_draw F__law_large
noncomputable abbrev F_law : Mir := r_law F_holds F__law_holds F__law_shape F__law_texts F__law_draw F__law_deepened F__law_condition F__law_value_words F__law_any_tables F__law_tape
structure Txt (mg : Str → Option Value) : Prop where
  n_enumerate : mg "enumerate" = none
  n_list : mg "list" = none
  n_int : mg "int" = none
  n_abs : mg "abs" = none
  n_max : mg "max" = none
  n_len : mg "len" = none
  n_range : mg "range" = none
  n_str : mg "str" = none
  n_sum : mg "sum" = none
  n_tuple : mg "tuple" = none
  n_min : mg "min" = none
  n_isinstance : mg "isinstance" = none
  n_bool : mg "bool" = none
section
variable {P : Program} {w : World} {K : PySem.W.Frag} {mg : Str → Option Value} {base : Heap}
set_option maxHeartbeats 4000000 in
theorem ok_table_place (T : Txt mg) {a : Addr} {fd : FuncData} (F : Fun K "table_place" "table_place" s_table_place a fd) : FnOk P w K mg base (L2.CX P w) 1 a fd ["tables", "name"] (spM K mg (r_table_place)) :=
  fn_body (N := N_table_place) F sc_table_place fun cdv A outer s H E hr =>
      (dss_cons (ds_for (passes_of rfl) rfl (di_enumA (by rfl) T.n_enumerate (da_cons (d_var 0) da_nil) (len_cons len_nil)) (dg_tup rfl (dgs_cons (dg_name (i := 2) sc_table_place.nd rfl (Or.inl rfl)) (dgs_cons (dg_name (i := 3) sc_table_place.nd rfl (Or.inl rfl)) dgs_nil))) (dss_one (ds_if (dt_cmp (o_eq hr.units) (d_ix i_ix (d_var 3) d_int (fun _ _ => rfl)) (d_var 1) (nomark _)) (dss_one (ds_ret (d_var 2))) dss_nil)))
      (dss_one (ds_ret d_non)))
set_option maxHeartbeats 4000000 in
theorem ok_column_place (T : Txt mg) {a : Addr} {fd : FuncData} (F : Fun K "column_place" "column_place" s_column_place a fd) : FnOk P w K mg base (L2.CX P w) 1 a fd ["table", "name"] (spM K mg (r_column_place)) :=
  fn_body (N := N_column_place) F sc_column_place fun cdv A outer s H E hr =>
      (dss_cons (ds_for (passes_of rfl) rfl (di_enumA (by rfl) T.n_enumerate (da_cons (d_ix i_ix (d_var 0) d_int (fun _ _ => rfl)) da_nil) (len_cons len_nil)) (dg_tup rfl (dgs_cons (dg_name (i := 2) sc_column_place.nd rfl (Or.inl rfl)) (dgs_cons (dg_name (i := 3) sc_column_place.nd rfl (Or.inl rfl)) dgs_nil))) (dss_one (ds_if (dt_cmp (o_eq hr.units) (d_ix i_ix (d_var 3) d_int (fun _ _ => rfl)) (d_var 1) (nomark _)) (dss_one (ds_ret (d_var 2))) dss_nil)))
      (dss_one (ds_ret d_non)))
set_option maxHeartbeats 4000000 in
theorem ok_cell_at (T : Txt mg) {f_column_place : Mir} (C_column_place : Cal P w K mg base "column_place" 1 ["table", "name"] f_column_place) {f_table_place : Mir} (C_table_place : Cal P w K mg base "table_place" 1 ["tables", "name"] f_table_place) {a : Addr} {fd : FuncData} (F : Fun K "cell_at" "cell_at" s_cell_at a fd) : FnOk P w K mg base (L2.CX P w) 2 a fd ["tables", "operand", "record"] (spM K mg (r_cell_at f_column_place f_table_place)) :=
  fn_body (N := N_cell_at) F sc_cell_at fun cdv A outer s H E hr =>
      (dss_cons (ds_if (dt_cmp (o_eq hr.units) (d_ix i_ix (d_var 1) d_int (fun _ _ => rfl)) d_str (nomark _)) (dss_one (ds_ret (d_ix i_ix (d_var 1) d_int (fun _ _ => rfl)))) dss_nil)
      (dss_cons (ds_set (i := 3) sc_cell_at.nd rfl (Or.inl rfl) (d_cal C_table_place (hr.mono (by decide)) (by rfl) passX (da_cons (d_var 0) (da_cons (d_ix i_ix (d_var 1) d_int (fun _ _ => rfl)) da_nil))))
      (dss_cons (ds_set (i := 4) sc_cell_at.nd rfl (Or.inl rfl) (d_ix i_ix (d_var 2) (d_var 3) (fun _ _ => rfl)))
      (dss_cons (ds_if (dt_cmp o_is (d_var 4) d_non (nomark _)) (dss_one (ds_ret d_non)) dss_nil)
      (dss_one (ds_ret (d_ix i_ix (d_var 4) (d_cal C_column_place (hr.mono (by decide)) (by rfl) passX (da_cons (d_ix i_ix (d_var 0) (d_var 3) (fun _ _ => rfl)) (da_cons (d_ix i_ix (d_var 1) d_int (fun _ _ => rfl)) da_nil))) (fun _ _ => rfl))))))))
set_option maxHeartbeats 4000000 in
theorem ok_holds (T : Txt mg) {n : Nat} {f_table_place : Mir} (C_table_place : Cal P w K mg base "table_place" 1 ["tables", "name"] f_table_place) {f_holds : Mir} (C_holds : Cal P w K mg base "holds" (2 + n) ["tables", "condition", "record"] f_holds) {f_cell_at : Mir} (C_cell_at : Cal P w K mg base "cell_at" 2 ["tables", "operand", "record"] f_cell_at) {a : Addr} {fd : FuncData} (F : Fun K "holds" "holds" s_holds a fd) : FnOk P w K mg base (L2.CX P w) (2 + n + 1) a fd ["tables", "condition", "record"] (spM K mg (r_holds f_table_place f_holds f_cell_at)) :=
  fn_body (N := N_holds) F sc_holds fun cdv A outer s H E hr =>
      (dss_cons (ds_set (i := 3) sc_holds.nd rfl (Or.inl rfl) (d_ix i_ix (d_var 1) d_int (fun _ _ => rfl)))
      (dss_cons (ds_if (dt_cmp (o_eq hr.units) (d_var 3) d_str (nomark _)) (dss_one (ds_ret (d_cmp (o_eq hr.units) (d_cal C_cell_at (hr.mono (by omega)) (by rfl) passX (da_cons (d_var 0) (da_cons (d_ix i_ix (d_var 1) d_int (fun _ _ => rfl)) (da_cons (d_var 2) da_nil)))) (d_cal C_cell_at (hr.mono (by omega)) (by rfl) passX (da_cons (d_var 0) (da_cons (d_ix i_ix (d_var 1) d_int (fun _ _ => rfl)) (da_cons (d_var 2) da_nil)))) (nomark _)))) dss_nil)
      (dss_cons (ds_if (dt_cmp (o_eq hr.units) (d_var 3) d_str (nomark _)) (dss_one (ds_ret (d_cmp (o_ne hr.units) (d_cal C_cell_at (hr.mono (by omega)) (by rfl) passX (da_cons (d_var 0) (da_cons (d_ix i_ix (d_var 1) d_int (fun _ _ => rfl)) (da_cons (d_var 2) da_nil)))) (d_cal C_cell_at (hr.mono (by omega)) (by rfl) passX (da_cons (d_var 0) (da_cons (d_ix i_ix (d_var 1) d_int (fun _ _ => rfl)) (da_cons (d_var 2) da_nil)))) (nomark _)))) dss_nil)
      (dss_cons (ds_if (dt_cmp (o_eq hr.units) (d_var 3) d_str (nomark _)) (dss_cons (ds_for (passes_of rfl) rfl (di_seq (d_ix i_ix (d_var 1) d_int (fun _ _ => rfl))) (dg_name (i := 4) sc_holds.nd rfl (Or.inl rfl)) (dss_one (ds_if (dt_not (dt_of (d_cal C_holds (hr.mono (by omega)) (by rfl) passX (da_cons (d_var 0) (da_cons (d_var 4) (da_cons (d_var 2) da_nil)))))) (dss_one (ds_ret d_bl)) dss_nil)))
      (dss_one (ds_ret d_bl))) dss_nil)
      (dss_cons (ds_if (dt_cmp (o_eq hr.units) (d_var 3) d_str (nomark _)) (dss_cons (ds_for (passes_of rfl) rfl (di_seq (d_ix i_ix (d_var 1) d_int (fun _ _ => rfl))) (dg_name (i := 4) sc_holds.nd rfl (Or.inl rfl)) (dss_one (ds_if (dt_of (d_cal C_holds (hr.mono (by omega)) (by rfl) passX (da_cons (d_var 0) (da_cons (d_var 4) (da_cons (d_var 2) da_nil))))) (dss_one (ds_ret d_bl)) dss_nil)))
      (dss_one (ds_ret d_bl))) dss_nil)
      (dss_cons (ds_if (dt_cmp (o_eq hr.units) (d_var 3) d_str (nomark _)) (dss_one (ds_ret (d_not (d_cal C_holds (hr.mono (by omega)) (by rfl) passX (da_cons (d_var 0) (da_cons (d_ix i_ix (d_var 1) d_int (fun _ _ => rfl)) (da_cons (d_var 2) da_nil))))))) dss_nil)
      (dss_cons (ds_if (dt_cmp (o_eq hr.units) (d_var 3) d_str (nomark _)) (dss_one (ds_ret (d_cmp o_isnot (d_ix i_ix (d_var 2) (d_cal C_table_place (hr.mono (by omega)) (by rfl) passX (da_cons (d_var 0) (da_cons (d_ix i_ix (d_var 1) d_int (fun _ _ => rfl)) da_nil))) (fun _ _ => rfl)) d_non (nomark _)))) dss_nil)
      (dss_one (ds_ret (d_cmp (o_eq hr.units) (d_var 3) d_str (nomark _)))))))))))
set_option maxHeartbeats 4000000 in
theorem ok__law_tape (T : Txt mg) {a : Addr} {fd : FuncData} (F : Fun K "_law_tape" "_law_tape" s__law_tape a fd) : FnOk P w K mg base (L2.CX P w) 1 a fd ["_law_script"] (spM K mg (r__law_tape)) :=
  fn_body (N := N__law_tape) F sc__law_tape fun cdv A outer s H E hr =>
      (dss_cons (ds_set (i := 1) sc__law_tape.nd rfl (Or.inl rfl) d_int)
      (dss_cons (ds_for (passes_of rfl) rfl (di_seq (d_var 0)) (dg_name (i := 2) sc__law_tape.nd rfl (Or.inl rfl)) (dss_one (ds_set (i := 1) sc__law_tape.nd rfl (Or.inl rfl) (d_op o_mod (d_callTy c_int (by rfl) T.n_int (by decide +kernel) (da_cons (d_op o_add (d_op o_mul (d_var 1) d_int) (d_callB c_abs (by rfl) T.n_abs (by decide +kernel) (da_cons (d_callTy c_int (by rfl) T.n_int (by decide +kernel) (da_cons (d_var 2) da_nil)) da_nil))) da_nil)) d_int))))
      (dss_one (ds_ret (d_lst (da_cons (d_callTy c_list (by rfl) T.n_list (by decide +kernel) (da_cons (d_var 0) da_nil)) (da_cons d_int (da_cons d_int (da_cons (d_var 1) da_nil)))))))))
set_option maxHeartbeats 4000000 in
theorem ok__law_draw (T : Txt mg) {a : Addr} {fd : FuncData} (F : Fun K "_law_draw" "_law_draw" s__law_draw a fd) : FnOk P w K mg base (L2.CX P w) 1 a fd ["_law_tape_here", "_law_many_here"] (spM K mg (r__law_draw)) :=
  fn_body (N := N__law_draw) F sc__law_draw fun cdv A outer s H E hr =>
      (dss_cons (ds_if (dt_cmp (o_eq hr.units) (d_ix i_ix (d_var 0) d_int (fun _ _ => rfl)) d_int (nomark _)) (dss_cons (ds_set (i := 2) sc__law_draw.nd rfl (Or.inl rfl) (d_ix i_ix (d_var 0) d_int (fun _ _ => rfl)))
      (dss_cons (ds_set (i := 3) sc__law_draw.nd rfl (Or.inl rfl) d_int)
      (dss_cons (ds_if (dt_cmp o_lt (d_var 2) (d_callB c_len (by rfl) T.n_len (by decide +kernel) (da_cons (d_ix i_ix (d_var 0) d_int (fun _ _ => rfl)) da_nil)) (nomark _)) (dss_one (ds_set (i := 3) sc__law_draw.nd rfl (Or.inl rfl) (d_callB c_abs (by rfl) T.n_abs (by decide +kernel) (da_cons (d_callTy c_int (by rfl) T.n_int (by decide +kernel) (da_cons (d_ix i_ix (d_ix i_ix (d_var 0) d_int (fun _ _ => rfl)) (d_var 2) (fun _ _ => rfl)) da_nil)) da_nil)))) (dss_cons (ds_sub s_list (d_op o_mod (d_callTy c_int (by rfl) T.n_int (by decide +kernel) (da_cons (d_op o_add (d_op o_add (d_op o_mul (d_ix i_ix (d_var 0) d_int (fun _ _ => rfl)) d_int) (d_var 2)) d_int) da_nil)) d_int) (d_var 0) d_int)
      (dss_one (ds_set (i := 3) sc__law_draw.nd rfl (Or.inl rfl) (d_ix i_ix (d_var 0) d_int (fun _ _ => rfl))))))
      (dss_cons (ds_sub s_list (d_op o_add (d_var 2) d_int) (d_var 0) d_int)
      (dss_cons (ds_if (dt_cmp o_lt (d_var 3) (d_op o_pow d_int d_int) (nomark _)) (dss_cons (ds_set (i := 3) sc__law_draw.nd rfl (Or.inl rfl) (d_op o_mod (d_callTy c_int (by rfl) T.n_int (by decide +kernel) (da_cons (d_op o_add (d_op o_add (d_op o_mul (d_var 3) d_int) (d_op o_mul (d_var 2) d_int)) d_int) da_nil)) d_int))
      (dss_cons (ds_set (i := 3) sc__law_draw.nd rfl (Or.inl rfl) (d_op o_mod (d_callTy c_int (by rfl) T.n_int (by decide +kernel) (da_cons (d_op o_mul (d_var 3) d_int) da_nil)) d_int))
      (dss_one (ds_ret (d_op o_mod (d_callTy c_int (by rfl) T.n_int (by decide +kernel) (da_cons (d_var 3) da_nil)) (d_callB (c_max2 rfl) (by rfl) T.n_max (by decide +kernel) (da_cons (d_var 1) (da_cons d_int da_nil)))))))) dss_nil)
      (dss_one (ds_sub s_list (d_var 3) (d_var 0) d_int))))))) dss_nil)
      (dss_cons (ds_set (i := 3) sc__law_draw.nd rfl (Or.inl rfl) (d_ix i_ix (d_var 0) d_int (fun _ _ => rfl)))
      (dss_cons (ds_sub s_list (d_op o_fdiv (d_var 3) (d_callB (c_max2 rfl) (by rfl) T.n_max (by decide +kernel) (da_cons (d_var 1) (da_cons d_int da_nil)))) (d_var 0) d_int)
      (dss_one (ds_ret (d_op o_mod (d_callTy c_int (by rfl) T.n_int (by decide +kernel) (da_cons (d_var 3) da_nil)) (d_callB (c_max2 rfl) (by rfl) T.n_max (by decide +kernel) (da_cons (d_var 1) (da_cons d_int da_nil)))))))))
set_option maxHeartbeats 4000000 in
theorem ok__law_reserved (T : Txt mg) {a : Addr} {fd : FuncData} (F : Fun K "_law_reserved" "_law_reserved" s__law_reserved a fd) : FnOk P w K mg base (L2.CX P w) 1 a fd [] (spM K mg (r__law_reserved)) :=
  fn_body (N := N__law_reserved) F sc__law_reserved fun cdv A outer s H E hr =>
      (dss_one (ds_ret (d_lst (da_cons d_str (da_cons d_str (da_cons d_str (da_cons d_str (da_cons d_str (da_cons d_str (da_cons d_str (da_cons d_str (da_cons d_str (da_cons d_str (da_cons d_str (da_cons d_str (da_cons d_str (da_cons d_str (da_cons d_str (da_cons d_str da_nil)))))))))))))))))))
set_option maxHeartbeats 4000000 in
theorem ok__law_words (T : Txt mg) {f__law_reserved : Mir} (C__law_reserved : Cal P w K mg base "_law_reserved" 1 [] f__law_reserved) {f__law_draw : Mir} (C__law_draw : Cal P w K mg base "_law_draw" 1 ["_law_tape_here", "_law_many_here"] f__law_draw) {a : Addr} {fd : FuncData} (F : Fun K "_law_words" "_law_words" s__law_words a fd) : FnOk P w K mg base (L2.CX P w) 2 a fd ["_law_tape_here", "_law_many_here", "_law_taken"] (spM K mg (r__law_words f__law_reserved f__law_draw)) :=
  fn_body (N := N__law_words) F sc__law_words fun cdv A outer s H E hr =>
      (dss_cons (ds_set (i := 3) sc__law_words.nd rfl (Or.inl rfl) d_str)
      (dss_cons (ds_set (i := 4) sc__law_words.nd rfl (Or.inl rfl) (d_op o_add (d_var 3) d_str))
      (dss_cons (ds_set (i := 5) sc__law_words.nd rfl (Or.inl rfl) (d_cal C__law_draw (hr.mono (by decide)) (by rfl) passX (da_cons (d_var 0) (da_cons d_int da_nil))))
      (dss_cons (ds_set (i := 6) sc__law_words.nd rfl (Or.inl rfl) (d_lst da_nil))
      (dss_cons (ds_for (passes_of rfl) rfl (di_range1 (by rfl) T.n_range (da_cons (d_var 1) da_nil) (len_cons len_nil)) (dg_name (i := 7) sc__law_words.nd rfl (Or.inl rfl)) (dss_cons (ds_set (i := 8) sc__law_words.nd rfl (Or.inl rfl) (d_cal C__law_draw (hr.mono (by decide)) (by rfl) passX (da_cons (d_var 0) (da_cons (d_op o_mul (d_op o_mul (d_op o_mul d_int d_int) d_int) d_int) da_nil))))
      (dss_cons (ds_set (i := 9) sc__law_words.nd rfl (Or.inl rfl) (d_op o_add (d_op o_add (d_ix i_ix (d_var 3) (d_op o_mod (d_callTy c_int (by rfl) T.n_int (by decide +kernel) (da_cons (d_var 8) da_nil)) d_int) (fun _ _ => rfl)) (d_ix i_ix (d_var 4) (d_op o_mod (d_callTy c_int (by rfl) T.n_int (by decide +kernel) (da_cons (d_op o_fdiv (d_var 8) d_int) da_nil)) d_int) (fun _ _ => rfl))) (d_ix i_ix (d_var 4) (d_op o_mod (d_callTy c_int (by rfl) T.n_int (by decide +kernel) (da_cons (d_op o_fdiv (d_var 8) d_int) da_nil)) d_int) (fun _ _ => rfl))))
      (dss_cons (ds_set (i := 9) sc__law_words.nd rfl (Or.inl rfl) (d_slice (d_var 9) do_none (do_some (d_op o_add d_int (d_op o_mod (d_callTy c_int (by rfl) T.n_int (by decide +kernel) (da_cons (d_op o_fdiv (d_var 8) d_int) da_nil)) d_int)))))
      (dss_cons (ds_if (dt_cmp (o_eq hr.units) (d_var 5) d_int (nomark _)) (dss_one (ds_set (i := 9) sc__law_words.nd rfl (Or.inl rfl) (d_op o_add d_str (d_var 9)))) dss_nil)
      (dss_cons (ds_if (dt_cmp (o_eq hr.units) (d_var 5) d_int (nomark _)) (dss_one (ds_set (i := 9) sc__law_words.nd rfl (Or.inl rfl) (d_op o_add (d_var 9) (d_slice d_str do_none (do_some (d_op o_sub d_int (d_callB c_len (by rfl) T.n_len (by decide +kernel) (da_cons (d_var 9) da_nil)))))))) dss_nil)
      (dss_cons (ds_if (dt_cmp (o_eq hr.units) (d_var 5) d_int (nomark _)) (dss_one (ds_set (i := 9) sc__law_words.nd rfl (Or.inl rfl) (d_op o_add (d_ix i_ix (d_cal0 C__law_reserved (hr.mono (by decide)) (by rfl) passX) (d_op o_mod (d_callTy c_int (by rfl) T.n_int (by decide +kernel) (da_cons (d_var 8) da_nil)) d_int) (fun _ _ => rfl)) (d_var 9)))) dss_nil)
      (dss_cons (ds_set (i := 10) sc__law_words.nd rfl (Or.inl rfl) (d_var 9))
      (dss_cons (ds_for (passes_of rfl) rfl (di_range1 (by rfl) T.n_range (da_cons (d_op o_add (d_op o_add (d_callB c_len (by rfl) T.n_len (by decide +kernel) (da_cons (d_var 6) da_nil)) (d_callB c_len (by rfl) T.n_len (by decide +kernel) (da_cons (d_var 2) da_nil))) d_int) da_nil) (len_cons len_nil)) (dg_name (i := 11) sc__law_words.nd rfl (Or.inl rfl)) (dss_cons (ds_if (dt_w (dw_and (dt_cmp o_notin (d_var 9) (d_var 6) (by rfl)) (dw_and (dt_cmp o_notin (d_var 9) (d_var 2) (by rfl)) (dw_and1 (dt_cmp o_notin (d_var 9) (d_cal0 C__law_reserved (hr.mono (by decide)) (by rfl) passX) (by rfl)))))) (dss_one ds_break) dss_nil)
      (dss_one (ds_set (i := 9) sc__law_words.nd rfl (Or.inl rfl) (d_op o_add (d_op o_add (d_slice (d_var 10) do_none (do_some d_int)) d_str) (d_callTy c_str (by rfl) T.n_str (by decide +kernel) (da_cons (d_var 11) da_nil)))))))
      (dss_one (ds_expr (d_m PySem.F.plainAttrs_list PySem.F.slot_list_append PySem.F.type_list_append m_append (d_var 6) (da_cons (d_var 9) da_nil)))))))))))))
      (dss_one (ds_ret (d_var 6))))))))
set_option maxHeartbeats 4000000 in
theorem ok__law_text (T : Txt mg) {f__law_draw : Mir} (C__law_draw : Cal P w K mg base "_law_draw" 1 ["_law_tape_here", "_law_many_here"] f__law_draw) {a : Addr} {fd : FuncData} (F : Fun K "_law_text" "_law_text" s__law_text a fd) : FnOk P w K mg base (L2.CX P w) 2 a fd ["_law_tape_here"] (spM K mg (r__law_text f__law_draw)) :=
  fn_body (N := N__law_text) F sc__law_text fun cdv A outer s H E hr =>
      (dss_cons (ds_set (i := 1) sc__law_text.nd rfl (Or.inl rfl) d_str)
      (dss_cons (ds_set (i := 2) sc__law_text.nd rfl (Or.inl rfl) (d_cal C__law_draw (hr.mono (by decide)) (by rfl) passX (da_cons (d_var 0) (da_cons d_int da_nil))))
      (dss_cons (ds_if (dt_cmp o_lt (d_var 2) d_int (nomark _)) (dss_one (ds_ret (d_ix i_ix (d_lst (da_cons d_str (da_cons d_str (da_cons d_str (da_cons d_str (da_cons d_str (da_cons d_str (da_cons d_str (da_cons d_str (da_cons d_str (da_cons d_str (da_cons d_str (da_cons d_str da_nil))))))))))))) (d_var 2) (fun _ _ => rfl)))) dss_nil)
      (dss_cons (ds_set (i := 3) sc__law_text.nd rfl (Or.inl rfl) (d_cal C__law_draw (hr.mono (by decide)) (by rfl) passX (da_cons (d_var 0) (da_cons (d_op o_mul (d_op o_mul d_int d_int) d_int) da_nil))))
      (dss_cons (ds_set (i := 4) sc__law_text.nd rfl (Or.inl rfl) (d_op o_add d_int (d_op o_mod (d_callTy c_int (by rfl) T.n_int (by decide +kernel) (da_cons (d_var 3) da_nil)) d_int)))
      (dss_cons (ds_set (i := 5) sc__law_text.nd rfl (Or.inl rfl) (d_op o_mod (d_callTy c_int (by rfl) T.n_int (by decide +kernel) (da_cons (d_op o_fdiv (d_var 3) d_int) da_nil)) (d_var 4)))
      (dss_cons (ds_set (i := 6) sc__law_text.nd rfl (Or.inl rfl) (d_ix i_ix (d_var 1) (d_op o_mod (d_callTy c_int (by rfl) T.n_int (by decide +kernel) (da_cons (d_op o_fdiv (d_var 3) d_int) da_nil)) d_int) (fun _ _ => rfl)))
      (dss_one (ds_ret (d_op o_add (d_op o_add (d_op o_mul (d_var 6) (d_var 5)) (d_ix i_ix (d_var 1) (d_op o_mod (d_callTy c_int (by rfl) T.n_int (by decide +kernel) (da_cons (d_op o_fdiv (d_var 3) d_int) da_nil)) d_int) (fun _ _ => rfl))) (d_op o_mul (d_var 6) (d_op o_sub (d_op o_sub (d_var 4) (d_var 5)) d_int))))))))))))
set_option maxHeartbeats 4000000 in
theorem ok__law_texts (T : Txt mg) {f__law_text : Mir} (C__law_text : Cal P w K mg base "_law_text" 2 ["_law_tape_here"] f__law_text) {a : Addr} {fd : FuncData} (F : Fun K "_law_texts" "_law_texts" s__law_texts a fd) : FnOk P w K mg base (L2.CX P w) 3 a fd ["_law_tape_here", "_law_many_here", "_law_taken"] (spM K mg (r__law_texts f__law_text)) :=
  fn_body (N := N__law_texts) F sc__law_texts fun cdv A outer s H E hr =>
      (dss_cons (ds_set (i := 3) sc__law_texts.nd rfl (Or.inl rfl) (d_lst da_nil))
      (dss_cons (ds_for (passes_of rfl) rfl (di_range1 (by rfl) T.n_range (da_cons (d_var 1) da_nil) (len_cons len_nil)) (dg_name (i := 4) sc__law_texts.nd rfl (Or.inl rfl)) (dss_cons (ds_set (i := 5) sc__law_texts.nd rfl (Or.inl rfl) (d_cal C__law_text (hr.mono (by decide)) (by rfl) passX (da_cons (d_var 0) da_nil)))
      (dss_cons (ds_for (passes_of rfl) rfl (di_range1 (by rfl) T.n_range (da_cons (d_op o_add (d_op o_add (d_callB c_len (by rfl) T.n_len (by decide +kernel) (da_cons (d_var 3) da_nil)) (d_callB c_len (by rfl) T.n_len (by decide +kernel) (da_cons (d_var 2) da_nil))) d_int) da_nil) (len_cons len_nil)) (dg_name (i := 6) sc__law_texts.nd rfl (Or.inl rfl)) (dss_cons (ds_if (dt_w (dw_and (dt_cmp o_notin (d_var 5) (d_var 3) (by rfl)) (dw_and1 (dt_cmp o_notin (d_var 5) (d_var 2) (by rfl))))) (dss_one ds_break) dss_nil)
      (dss_one (ds_set (i := 5) sc__law_texts.nd rfl (Or.inl rfl) (d_op o_add d_str (d_callTy c_str (by rfl) T.n_str (by decide +kernel) (da_cons (d_var 6) da_nil)))))))
      (dss_one (ds_expr (d_m PySem.F.plainAttrs_list PySem.F.slot_list_append PySem.F.type_list_append m_append (d_var 3) (da_cons (d_var 5) da_nil)))))))
      (dss_one (ds_ret (d_var 3)))))
set_option maxHeartbeats 4000000 in
theorem ok__law_many (T : Txt mg) {a : Addr} {fd : FuncData} (F : Fun K "_law_many" "_law_many" s__law_many a fd) : FnOk P w K mg base (L2.CX P w) 1 a fd ["_law_tables_here", "_law_many_here"] (spM K mg (r__law_many)) :=
  fn_body (N := N__law_many) F sc__law_many fun cdv A outer s H E hr =>
      (dss_cons (ds_set (i := 2) sc__law_many.nd rfl (Or.inl rfl) (d_lst (da_cons d_int da_nil)))
      (dss_cons (ds_for (passes_of rfl) rfl (di_seq (d_var 0)) (dg_name (i := 3) sc__law_many.nd rfl (Or.inl rfl)) (dss_cons (ds_set (i := 4) sc__law_many.nd rfl (Or.inl rfl) (d_callTy c_list (by rfl) T.n_list (by decide +kernel) (da_cons (d_var 2) da_nil)))
      (dss_cons (ds_for (passes_of rfl) rfl (di_seq (d_ix i_ix (d_var 3) d_int (fun _ _ => rfl))) (dg_name (i := 5) sc__law_many.nd rfl (Or.inr rfl)) (dss_cons (ds_set (i := 6) sc__law_many.nd rfl (Or.inr rfl) (d_callTy c_int (by rfl) T.n_int (by decide +kernel) (da_cons (d_ix i_ix (d_var 5) d_int (fun _ _ => rfl)) da_nil)))
      (dss_one (ds_if (dt_cmp (o_eq hr.units) (d_ix i_ix (d_var 5) d_int (fun _ _ => rfl)) d_str (nomark _)) (dss_cons (ds_set (i := 7) sc__law_many.nd rfl (Or.inl rfl) (d_lst da_nil))
      (dss_cons (ds_for (passes_of rfl) rfl (di_range1 (by rfl) T.n_range (da_cons (d_op o_add (d_callB c_len (by rfl) T.n_len (by decide +kernel) (da_cons (d_var 4) da_nil)) d_int) da_nil) (len_cons len_nil)) (dg_name (i := 8) sc__law_many.nd rfl (Or.inl rfl)) (dss_cons (ds_set (i := 9) sc__law_many.nd rfl (Or.inl rfl) d_int)
      (dss_cons (ds_if (dt_cmp o_lt (d_var 8) (d_callB c_len (by rfl) T.n_len (by decide +kernel) (da_cons (d_var 4) da_nil)) (nomark _)) (dss_one (ds_set (i := 9) sc__law_many.nd rfl (Or.inl rfl) (d_op o_mul (d_op o_add (d_op o_add (d_var 1) (d_var 8)) (d_var 6)) (d_ix i_ix (d_var 4) (d_var 8) (fun _ _ => rfl))))) dss_nil)
      (dss_cons (ds_if (dt_cmp o_gt (d_var 8) d_int (nomark _)) (dss_one (ds_set (i := 9) sc__law_many.nd rfl (Or.inl rfl) (d_op o_add (d_var 9) (d_ix i_ix (d_var 4) (d_op o_sub (d_var 8) d_int) (fun _ _ => rfl))))) dss_nil)
      (dss_one (ds_expr (d_m PySem.F.plainAttrs_list PySem.F.slot_list_append PySem.F.type_list_append m_append (d_var 7) (da_cons (d_var 9) da_nil))))))))
      (dss_one (ds_set (i := 4) sc__law_many.nd rfl (Or.inl rfl) (d_var 7))))) (dss_one (ds_setLc (i := 4) (own := [("_law_number", 9)]) (t := (.nm 9)) (by rfl) sc__law_many.nd (by rfl) rfl (sw_true rfl rfl rfl (by decide +kernel)) (di_seq (d_var 4)) (blkOk_by (own := [("_law_number", 9)]) (N := N__law_many) (sc := defScope s__law_many) (by decide +kernel)) (fun _ _ _ _ _ => (dg_name (i := 9) sc__law_many.nd rfl (Or.inl rfl))) (fun _ _ _ _ _ => dts_nil) (fun _ _ _ _ _ => (d_op o_mul (d_var 9) (d_op o_add (d_callB c_len (by rfl) T.n_len (by decide +kernel) (da_cons (d_ix i_ix (d_var 5) d_int (fun _ _ => rfl)) da_nil)) (d_var 6)))) (by decide)))))))
      (dss_cons (ds_if (dt_of (d_ix i_ix (d_var 3) d_int (fun _ _ => rfl))) (dss_one (ds_for (passes_of rfl) rfl (di_range1 (by rfl) T.n_range (da_cons (d_callB c_len (by rfl) T.n_len (by decide +kernel) (da_cons (d_var 2) da_nil)) da_nil) (len_cons len_nil)) (dg_name (i := 8) sc__law_many.nd rfl (Or.inl rfl)) (dss_one (ds_sub s_list (d_op o_add (d_ix i_ix (d_var 4) (d_var 8) (fun _ _ => rfl)) (d_ix i_ix (d_var 2) (d_var 8) (fun _ _ => rfl))) (d_var 4) (d_var 8))))) dss_nil)
      (dss_one (ds_set (i := 2) sc__law_many.nd rfl (Or.inl rfl) (d_var 4)))))))
      (dss_one (ds_ret (d_callB (c_sum rfl) (by rfl) T.n_sum (by decide +kernel) (da_cons (d_var 2) da_nil))))))
set_option maxHeartbeats 4000000 in
theorem ok__law_textual (T : Txt mg) {a : Addr} {fd : FuncData} (F : Fun K "_law_textual" "_law_textual" s__law_textual a fd) : FnOk P w K mg base (L2.CX P w) 1 a fd ["_law_tables_here"] (spM K mg (r__law_textual)) :=
  fn_body (N := N__law_textual) F sc__law_textual fun cdv A outer s H E hr =>
      (dss_cons (ds_set (i := 1) sc__law_textual.nd rfl (Or.inl rfl) (d_lst da_nil))
      (dss_cons (ds_for (passes_of rfl) rfl (di_seq (d_var 0)) (dg_name (i := 2) sc__law_textual.nd rfl (Or.inr rfl)) (dss_one (ds_set (i := 1) sc__law_textual.nd rfl (Or.inl rfl) (d_op o_add (d_var 1) (d_lc (own := [("_law_column", 3)]) (t := (.nm 3)) (by rfl) sc__law_textual.nd (di_seq (d_ix i_ix (d_var 2) d_int (fun _ _ => rfl))) (blkOk_by (own := [("_law_column", 3)]) (N := N__law_textual) (sc := defScope s__law_textual) (by decide +kernel)) (fun _ _ _ _ _ => (dg_name (i := 3) sc__law_textual.nd rfl (Or.inl rfl))) (fun _ _ _ _ _ => (dts_one (dt_cmp (o_eq hr.units) (d_ix i_ix (d_var 3) d_int (fun _ _ => rfl)) d_str (nomark _)))) (fun _ _ _ _ _ => (d_tup (da_cons (d_ix i_ix (d_var 2) d_int (fun _ _ => rfl)) (da_cons (d_ix i_ix (d_var 3) d_int (fun _ _ => rfl)) da_nil)))) (by decide))))))
      (dss_one (ds_ret (d_var 1)))))
set_option maxHeartbeats 4000000 in
theorem ok__law_tables (T : Txt mg) {f__law_words : Mir} (C__law_words : Cal P w K mg base "_law_words" 2 ["_law_tape_here", "_law_many_here", "_law_taken"] f__law_words) {f__law_draw : Mir} (C__law_draw : Cal P w K mg base "_law_draw" 1 ["_law_tape_here", "_law_many_here"] f__law_draw) {f__law_many : Mir} (C__law_many : Cal P w K mg base "_law_many" 1 ["_law_tables_here", "_law_many_here"] f__law_many) {f__law_textual : Mir} (C__law_textual : Cal P w K mg base "_law_textual" 1 ["_law_tables_here"] f__law_textual) {a : Addr} {fd : FuncData} (F : Fun K "_law_tables" "_law_tables" s__law_tables a fd) : FnOk P w K mg base (L2.CX P w) 3 a fd ["_law_tape_here", "_law_most", "_law_many_here", "_law_width"] (spM K mg (r__law_tables f__law_words f__law_draw f__law_many f__law_textual)) :=
  fn_body (N := N__law_tables) F sc__law_tables fun cdv A outer s H E hr =>
      (dss_cons (ds_set (i := 4) sc__law_tables.nd rfl (Or.inl rfl) (d_lst da_nil))
      (dss_cons (ds_for (passes_of rfl) rfl (di_seq (d_cal C__law_words (hr.mono (by decide)) (by rfl) passX (da_cons (d_var 0) (da_cons (d_ix i_ix (d_lst (da_cons d_int (da_cons d_int (da_cons d_int (da_cons d_int (da_cons d_int (da_cons d_int da_nil))))))) (d_cal C__law_draw (hr.mono (by decide)) (by rfl) passX (da_cons (d_var 0) (da_cons d_int da_nil))) (fun _ _ => rfl)) (da_cons (d_lst da_nil) da_nil))))) (dg_name (i := 5) sc__law_tables.nd rfl (Or.inl rfl)) (dss_cons (ds_set (i := 6) sc__law_tables.nd rfl (Or.inl rfl) (d_cmp (o_eq hr.units) (d_cal C__law_draw (hr.mono (by decide)) (by rfl) passX (da_cons (d_var 0) (da_cons d_int da_nil))) d_int (nomark _)))
      (dss_cons (ds_set (i := 7) sc__law_tables.nd rfl (Or.inl rfl) (d_lst da_nil))
      (dss_cons (ds_for (passes_of rfl) rfl (di_seq (d_cal C__law_words (hr.mono (by decide)) (by rfl) passX (da_cons (d_var 0) (da_cons (d_ix i_ix (d_lst (da_cons d_int (da_cons d_int (da_cons d_int (da_cons d_int (da_cons d_int (da_cons d_int da_nil))))))) (d_cal C__law_draw (hr.mono (by decide)) (by rfl) passX (da_cons (d_var 0) (da_cons d_int da_nil))) (fun _ _ => rfl)) (da_cons (d_lst da_nil) da_nil))))) (dg_name (i := 8) sc__law_tables.nd rfl (Or.inl rfl)) (dss_cons (ds_set (i := 9) sc__law_tables.nd rfl (Or.inl rfl) d_str)
      (dss_cons (ds_if (dt_w (dw_or (dt_cmp o_lt (d_cal C__law_draw (hr.mono (by decide)) (by rfl) passX (da_cons (d_var 0) (da_cons d_int da_nil))) d_int (nomark _)) (dw_or1 (dt_cmp o_ge (d_callB c_len (by rfl) T.n_len (by decide +kernel) (da_cons (d_cal C__law_textual (hr.mono (by decide)) (by rfl) passX (da_cons (d_op o_add (d_var 4) (d_lst (da_cons (d_tup (da_cons (d_var 5) (da_cons (d_var 6) (da_cons (d_var 7) da_nil)))) da_nil))) da_nil)) da_nil)) (d_var 3) (nomark _))))) (dss_one (ds_set (i := 9) sc__law_tables.nd rfl (Or.inl rfl) (d_callTy c_tuple (by rfl) T.n_tuple (by decide +kernel) (da_cons (d_cal C__law_words (hr.mono (by decide)) (by rfl) passX (da_cons (d_var 0) (da_cons (d_ix i_ix (d_lst (da_cons d_int (da_cons d_int (da_cons d_int (da_cons d_int (da_cons d_int (da_cons d_int (da_cons d_int (da_cons d_int da_nil))))))))) (d_cal C__law_draw (hr.mono (by decide)) (by rfl) passX (da_cons (d_var 0) (da_cons d_int da_nil))) (fun _ _ => rfl)) (da_cons (d_lst da_nil) da_nil)))) da_nil)))) dss_nil)
      (dss_cons (ds_set (i := 10) sc__law_tables.nd rfl (Or.inl rfl) (d_tup (da_cons (d_var 8) (da_cons (d_var 9) (da_cons (d_cmp (o_eq hr.units) (d_cal C__law_draw (hr.mono (by decide)) (by rfl) passX (da_cons (d_var 0) (da_cons d_int da_nil))) d_int (nomark _)) da_nil)))))
      (dss_cons (ds_set (i := 11) sc__law_tables.nd rfl (Or.inl rfl) (d_op o_add (d_callB (c_sum rfl) (by rfl) T.n_sum (by decide +kernel) (da_cons (d_lc (own := [("_law_table", 12)]) (t := (.nm 12)) (by rfl) sc__law_tables.nd (di_seq (d_var 4)) (blkOk_by (own := [("_law_table", 12)]) (N := N__law_tables) (sc := defScope s__law_tables) (by decide +kernel)) (fun _ _ _ _ _ => (dg_name (i := 12) sc__law_tables.nd rfl (Or.inl rfl))) (fun _ _ _ _ _ => dts_nil) (fun _ _ _ _ _ => (d_callB c_len (by rfl) T.n_len (by decide +kernel) (da_cons (d_ix i_ix (d_var 12) d_int (fun _ _ => rfl)) da_nil))) (by decide)) da_nil)) (d_callB c_len (by rfl) T.n_len (by decide +kernel) (da_cons (d_var 7) da_nil))))
      (dss_one (ds_if (dt_w (dw_and (dt_cmp o_lt (d_var 11) d_int (nomark _)) (dw_and1 (dt_cmp o_le (d_cal C__law_many (hr.mono (by decide)) (by rfl) passX (da_cons (d_op o_add (d_var 4) (d_lst (da_cons (d_tup (da_cons (d_var 5) (da_cons (d_var 6) (da_cons (d_op o_add (d_var 7) (d_lst (da_cons (d_var 10) da_nil))) da_nil)))) da_nil))) (da_cons (d_var 2) da_nil))) (d_var 1) (nomark _))))) (dss_one (ds_expr (d_m PySem.F.plainAttrs_list PySem.F.slot_list_append PySem.F.type_list_append m_append (d_var 7) (da_cons (d_var 10) da_nil)))) dss_nil)))))))
      (dss_cons (ds_if (dt_not (dt_of (d_var 7))) (dss_one (ds_expr (d_m PySem.F.plainAttrs_list PySem.F.slot_list_append PySem.F.type_list_append m_append (d_var 7) (da_cons (d_tup (da_cons d_str (da_cons (d_tup (da_cons d_str da_nil)) (da_cons d_bl da_nil)))) da_nil)))) dss_nil)
      (dss_cons (ds_set (i := 11) sc__law_tables.nd rfl (Or.inl rfl) (d_op o_add (d_callB (c_sum rfl) (by rfl) T.n_sum (by decide +kernel) (da_cons (d_lc (own := [("_law_table", 12)]) (t := (.nm 12)) (by rfl) sc__law_tables.nd (di_seq (d_var 4)) (blkOk_by (own := [("_law_table", 12)]) (N := N__law_tables) (sc := defScope s__law_tables) (by decide +kernel)) (fun _ _ _ _ _ => (dg_name (i := 12) sc__law_tables.nd rfl (Or.inl rfl))) (fun _ _ _ _ _ => dts_nil) (fun _ _ _ _ _ => (d_callB c_len (by rfl) T.n_len (by decide +kernel) (da_cons (d_ix i_ix (d_var 12) d_int (fun _ _ => rfl)) da_nil))) (by decide)) da_nil)) (d_callB c_len (by rfl) T.n_len (by decide +kernel) (da_cons (d_var 7) da_nil))))
      (dss_one (ds_if (dt_w (dw_or (dt_not (dt_of (d_var 4))) (dw_or1 (dt_w (dw_and (dt_cmp o_le (d_var 11) d_int (nomark _)) (dw_and1 (dt_cmp o_le (d_cal C__law_many (hr.mono (by decide)) (by rfl) passX (da_cons (d_op o_add (d_var 4) (d_lst (da_cons (d_tup (da_cons (d_var 5) (da_cons (d_var 6) (da_cons (d_var 7) da_nil)))) da_nil))) (da_cons (d_var 2) da_nil))) (d_var 1) (nomark _)))))))) (dss_one (ds_expr (d_m PySem.F.plainAttrs_list PySem.F.slot_list_append PySem.F.type_list_append m_append (d_var 4) (da_cons (d_tup (da_cons (d_var 5) (da_cons (d_var 6) (da_cons (d_callTy c_tuple (by rfl) T.n_tuple (by decide +kernel) (da_cons (d_var 7) da_nil)) da_nil)))) da_nil)))) dss_nil))))))))
      (dss_one (ds_ret (d_callTy c_tuple (by rfl) T.n_tuple (by decide +kernel) (da_cons (d_var 4) da_nil))))))
set_option maxHeartbeats 4000000 in
theorem ok__law_value_words (T : Txt mg) {a : Addr} {fd : FuncData} (F : Fun K "_law_value_words" "_law_value_words" s__law_value_words a fd) : FnOk P w K mg base (L2.CX P w) 1 a fd ["_law_tables_here"] (spM K mg (r__law_value_words)) :=
  fn_body (N := N__law_value_words) F sc__law_value_words fun cdv A outer s H E hr =>
      (dss_cons (ds_set (i := 1) sc__law_value_words.nd rfl (Or.inr rfl) (d_lst (da_cons d_str da_nil)))
      (dss_cons (ds_for (passes_of rfl) rfl (di_seq (d_var 0)) (dg_name (i := 2) sc__law_value_words.nd rfl (Or.inl rfl)) (dss_one (ds_for (passes_of rfl) rfl (di_seq (d_ix i_ix (d_var 2) d_int (fun _ _ => rfl))) (dg_name (i := 3) sc__law_value_words.nd rfl (Or.inl rfl)) (dss_one (ds_if (dt_cmp (o_ne hr.units) (d_ix i_ix (d_var 3) d_int (fun _ _ => rfl)) d_str (nomark _)) (dss_cons (ds_set (i := 4) sc__law_value_words.nd rfl (Or.inl rfl) (d_op o_add (d_slice (d_ix i_ix (d_var 3) d_int (fun _ _ => rfl)) do_none (do_some d_int)) (d_slice (d_ix i_ix (d_var 3) d_int (fun _ _ => rfl)) (do_some (d_op o_sub (d_callB c_len (by rfl) T.n_len (by decide +kernel) (da_cons (d_ix i_ix (d_var 3) d_int (fun _ _ => rfl)) da_nil)) d_int)) do_none)))
      (dss_one (ds_set (i := 1) sc__law_value_words.nd rfl (Or.inr rfl) (d_op o_add (d_var 1) (d_lc (own := [("_law_word", 5)]) (t := (.nm 5)) (by rfl) sc__law_value_words.nd (di_seq (d_var 4)) (blkOk_by (own := [("_law_word", 5)]) (N := N__law_value_words) (sc := defScope s__law_value_words) (by decide +kernel)) (fun _ _ _ _ _ => (dg_name (i := 5) sc__law_value_words.nd rfl (Or.inl rfl))) (fun _ _ _ _ _ => (dts_one (dt_cmp o_notin (d_var 5) (d_var 1) (by rfl)))) (fun _ _ _ _ _ => (d_var 5)) (by decide)))))) dss_nil)))))
      (dss_one (ds_ret (d_var 1)))))
set_option maxHeartbeats 4000000 in
theorem ok__law_operand (T : Txt mg) {f__law_draw : Mir} (C__law_draw : Cal P w K mg base "_law_draw" 1 ["_law_tape_here", "_law_many_here"] f__law_draw) {a : Addr} {fd : FuncData} (F : Fun K "_law_operand" "_law_operand" s__law_operand a fd) : FnOk P w K mg base (L2.CX P w) 2 a fd ["_law_tape_here", "_law_tables_here", "_law_pool", "_law_words_here", "_law_textual_here"] (spM K mg (r__law_operand f__law_draw)) :=
  fn_body (N := N__law_operand) F sc__law_operand fun cdv A outer s H E hr =>
      (dss_cons (ds_set (i := 5) sc__law_operand.nd rfl (Or.inl rfl) (d_lst da_nil))
      (dss_cons (ds_for (passes_of rfl) rfl (di_seq (d_var 1)) (dg_name (i := 6) sc__law_operand.nd rfl (Or.inr rfl)) (dss_one (ds_set (i := 5) sc__law_operand.nd rfl (Or.inl rfl) (d_op o_add (d_var 5) (d_lc (own := [("_law_column", 9)]) (t := (.nm 9)) (by rfl) sc__law_operand.nd (di_seq (d_ix i_ix (d_var 6) d_int (fun _ _ => rfl))) (blkOk_by (own := [("_law_column", 9)]) (N := N__law_operand) (sc := defScope s__law_operand) (by decide +kernel)) (fun _ _ _ _ _ => (dg_name (i := 9) sc__law_operand.nd rfl (Or.inl rfl))) (fun _ _ _ _ _ => (dts_one (dt_cmp (o_eq hr.units) (d_cmp (o_eq hr.units) (d_ix i_ix (d_var 9) d_int (fun _ _ => rfl)) d_str (nomark _)) (d_var 4) (nomark _)))) (fun _ _ _ _ _ => (d_tup (da_cons (d_ix i_ix (d_var 6) d_int (fun _ _ => rfl)) (da_cons (d_ix i_ix (d_var 9) d_int (fun _ _ => rfl)) da_nil)))) (by decide))))))
      (dss_cons (ds_set (i := 7) sc__law_operand.nd rfl (Or.inl rfl) (d_cal C__law_draw (hr.mono (by decide)) (by rfl) passX (da_cons (d_var 0) (da_cons d_int da_nil))))
      (dss_cons (ds_if (dt_w (dw_and (dt_cmp o_gt (d_var 7) d_int (nomark _)) (dw_and1 (dt_of (d_var 5))))) (dss_cons (ds_set (i := 8) sc__law_operand.nd rfl (Or.inl rfl) (d_ix i_ix (d_var 5) (d_cal C__law_draw (hr.mono (by decide)) (by rfl) passX (da_cons (d_var 0) (da_cons (d_callB c_len (by rfl) T.n_len (by decide +kernel) (da_cons (d_var 5) da_nil)) da_nil))) (fun _ _ => rfl)))
      (dss_one (ds_ret (d_tup (da_cons d_str (da_cons (d_ix i_ix (d_var 8) d_int (fun _ _ => rfl)) (da_cons (d_ix i_ix (d_var 8) d_int (fun _ _ => rfl)) da_nil))))))) dss_nil)
      (dss_cons (ds_if (dt_w (dw_and (dt_cmp o_gt (d_var 7) d_int (nomark _)) (dw_and (dt_of (d_var 4)) (dw_and1 (dt_of (d_var 2)))))) (dss_one (ds_ret (d_tup (da_cons d_str (da_cons (d_ix i_ix (d_var 2) (d_cal C__law_draw (hr.mono (by decide)) (by rfl) passX (da_cons (d_var 0) (da_cons (d_callB c_len (by rfl) T.n_len (by decide +kernel) (da_cons (d_var 2) da_nil)) da_nil))) (fun _ _ => rfl)) da_nil))))) dss_nil)
      (dss_cons (ds_if (dt_w (dw_and (dt_cmp o_gt (d_var 7) d_int (nomark _)) (dw_and (dt_of (d_var 3)) (dw_and1 (dt_not (dt_of (d_var 4))))))) (dss_one (ds_ret (d_tup (da_cons d_str (da_cons (d_tup (da_cons (d_ix i_ix (d_var 3) (d_cal C__law_draw (hr.mono (by decide)) (by rfl) passX (da_cons (d_var 0) (da_cons (d_callB c_len (by rfl) T.n_len (by decide +kernel) (da_cons (d_var 3) da_nil)) da_nil))) (fun _ _ => rfl)) da_nil)) da_nil))))) dss_nil)
      (dss_one (ds_ret (d_tup (da_cons d_str (da_cons d_non da_nil)))))))))))
set_option maxHeartbeats 4000000 in
theorem ok__law_condition (T : Txt mg) {n : Nat} {f__law_operand : Mir} (C__law_operand : Cal P w K mg base "_law_operand" 2 ["_law_tape_here", "_law_tables_here", "_law_pool", "_law_words_here", "_law_textual_here"] f__law_operand) {f__law_draw : Mir} (C__law_draw : Cal P w K mg base "_law_draw" 1 ["_law_tape_here", "_law_many_here"] f__law_draw) {f__law_textual : Mir} (C__law_textual : Cal P w K mg base "_law_textual" 1 ["_law_tables_here"] f__law_textual) {f__law_condition : Mir} (C__law_condition : Cal P w K mg base "_law_condition" (2 + n) ["_law_tape_here", "_law_tables_here", "_law_pool", "_law_words_here", "_law_deep"] f__law_condition) {a : Addr} {fd : FuncData} (F : Fun K "_law_condition" "_law_condition" s__law_condition a fd) : FnOk P w K mg base (L2.CX P w) (2 + n + 1) a fd ["_law_tape_here", "_law_tables_here", "_law_pool", "_law_words_here", "_law_deep"] (spM K mg (r__law_condition f__law_operand f__law_draw f__law_textual f__law_condition)) :=
  fn_body (N := N__law_condition) F sc__law_condition fun cdv A outer s H E hr =>
      (dss_cons (ds_set (i := 5) sc__law_condition.nd rfl (Or.inl rfl) (d_cal C__law_draw (hr.mono (by omega)) (by rfl) passX (da_cons (d_var 0) (da_cons d_int da_nil))))
      (dss_cons (ds_if (dt_w (dw_and (dt_cmp o_gt (d_var 4) d_int (nomark _)) (dw_and1 (dt_cmp (o_eq hr.units) (d_var 5) d_int (nomark _))))) (dss_one (ds_ret (d_tup (da_cons d_str (da_cons (d_cal C__law_condition (hr.mono (by omega)) (by rfl) passX (da_cons (d_var 0) (da_cons (d_var 1) (da_cons (d_var 2) (da_cons (d_var 3) (da_cons (d_op o_sub (d_var 4) d_int) da_nil)))))) da_nil))))) dss_nil)
      (dss_cons (ds_if (dt_w (dw_and (dt_cmp o_gt (d_var 4) d_int (nomark _)) (dw_and1 (dt_cmp o_lt (d_var 5) d_int (nomark _))))) (dss_cons (ds_set (i := 6) sc__law_condition.nd rfl (Or.inl rfl) (d_lst da_nil))
      (dss_cons (ds_set (i := 7) sc__law_condition.nd rfl (Or.inl rfl) (d_ix i_ix (d_lst (da_cons d_int (da_cons d_int (da_cons d_int (da_cons d_int (da_cons d_int (da_cons d_int da_nil))))))) (d_cal C__law_draw (hr.mono (by omega)) (by rfl) passX (da_cons (d_var 0) (da_cons (d_ix i_ix (d_lst (da_cons d_int (da_cons d_int da_nil))) (d_callTy c_int (by rfl) T.n_int (by decide +kernel) (da_cons (d_cmp (o_eq hr.units) (d_var 4) d_int (nomark _)) da_nil)) (fun _ _ => rfl)) da_nil))) (fun _ _ => rfl)))
      (dss_cons (ds_for (passes_of rfl) rfl (di_range1 (by rfl) T.n_range (da_cons (d_var 7) da_nil) (len_cons len_nil)) (dg_name (i := 8) sc__law_condition.nd rfl (Or.inl rfl)) (dss_one (ds_expr (d_m PySem.F.plainAttrs_list PySem.F.slot_list_append PySem.F.type_list_append m_append (d_var 6) (da_cons (d_cal C__law_condition (hr.mono (by omega)) (by rfl) passX (da_cons (d_var 0) (da_cons (d_var 1) (da_cons (d_var 2) (da_cons (d_var 3) (da_cons (d_op o_sub (d_var 4) d_int) da_nil)))))) da_nil)))))
      (dss_one (ds_ret (d_tup (da_cons (d_ix i_ix (d_lst (da_cons d_str (da_cons d_str da_nil))) (d_op o_mod (d_callTy c_int (by rfl) T.n_int (by decide +kernel) (da_cons (d_var 5) da_nil)) d_int) (fun _ _ => rfl)) (da_cons (d_callTy c_tuple (by rfl) T.n_tuple (by decide +kernel) (da_cons (d_var 6) da_nil)) da_nil)))))))) dss_nil)
      (dss_cons (ds_if (dt_cmp (o_eq hr.units) (d_var 5) d_int (nomark _)) (dss_one (ds_ret (d_ix i_ix (d_lst (da_cons (d_tup (da_cons d_str da_nil)) (da_cons (d_tup (da_cons d_str da_nil)) (da_cons (d_tup (da_cons d_str (da_cons (d_ix i_ix (d_ix i_ix (d_var 1) (d_cal C__law_draw (hr.mono (by omega)) (by rfl) passX (da_cons (d_var 0) (da_cons (d_callB c_len (by rfl) T.n_len (by decide +kernel) (da_cons (d_var 1) da_nil)) da_nil))) (fun _ _ => rfl)) d_int (fun _ _ => rfl)) da_nil))) da_nil)))) (d_cal C__law_draw (hr.mono (by omega)) (by rfl) passX (da_cons (d_var 0) (da_cons d_int da_nil))) (fun _ _ => rfl)))) dss_nil)
      (dss_cons (ds_set (i := 9) sc__law_condition.nd rfl (Or.inl rfl) (d_cmp o_gt (d_cal C__law_draw (hr.mono (by omega)) (by rfl) passX (da_cons (d_var 0) (da_cons d_int da_nil))) d_int (nomark _)))
      (dss_cons (ds_if (dt_not (dt_of (d_cal C__law_textual (hr.mono (by omega)) (by rfl) passX (da_cons (d_var 1) da_nil)))) (dss_one (ds_set (i := 9) sc__law_condition.nd rfl (Or.inl rfl) d_bl)) dss_nil)
      (dss_cons (ds_set (i := 10) sc__law_condition.nd rfl (Or.inl rfl) (d_cal C__law_operand (hr.mono (by omega)) (by rfl) passX (da_cons (d_var 0) (da_cons (d_var 1) (da_cons (d_var 2) (da_cons (d_var 3) (da_cons (d_var 9) da_nil)))))))
      (dss_one (ds_ret (d_tup (da_cons (d_ix i_ix (d_lst (da_cons d_str (da_cons d_str da_nil))) (d_cal C__law_draw (hr.mono (by omega)) (by rfl) passX (da_cons (d_var 0) (da_cons d_int da_nil))) (fun _ _ => rfl)) (da_cons (d_var 10) (da_cons (d_cal C__law_operand (hr.mono (by omega)) (by rfl) passX (da_cons (d_var 0) (da_cons (d_var 1) (da_cons (d_var 2) (da_cons (d_var 3) (da_cons (d_var 9) da_nil)))))) da_nil)))))))))))))
set_option maxHeartbeats 4000000 in
theorem ok__law_shape (T : Txt mg) {f__law_draw : Mir} (C__law_draw : Cal P w K mg base "_law_draw" 1 ["_law_tape_here", "_law_many_here"] f__law_draw) {a : Addr} {fd : FuncData} (F : Fun K "_law_shape" "_law_shape" s__law_shape a fd) : FnOk P w K mg base (L2.CX P w) 2 a fd ["_law_tape_here", "_law_tables_here", "_law_texts_here"] (spM K mg (r__law_shape f__law_draw)) :=
  fn_body (N := N__law_shape) F sc__law_shape fun cdv A outer s H E hr =>
      (dss_cons (ds_set (i := 3) sc__law_shape.nd rfl (Or.inl rfl) (d_lst da_nil))
      (dss_cons (ds_for (passes_of rfl) rfl (di_seq (d_var 1)) (dg_name (i := 4) sc__law_shape.nd rfl (Or.inl rfl)) (dss_cons (ds_set (i := 5) sc__law_shape.nd rfl (Or.inl rfl) (d_lst da_nil))
      (dss_cons (ds_for (passes_of rfl) rfl (di_seq (d_ix i_ix (d_var 4) d_int (fun _ _ => rfl))) (dg_name (i := 6) sc__law_shape.nd rfl (Or.inl rfl)) (dss_cons (ds_set (i := 7) sc__law_shape.nd rfl (Or.inl rfl) (d_op o_add (d_callTy c_list (by rfl) T.n_list (by decide +kernel) (da_cons (d_var 2) da_nil)) (d_lst (da_cons d_non da_nil))))
      (dss_cons (ds_if (dt_cmp (o_ne hr.units) (d_ix i_ix (d_var 6) d_int (fun _ _ => rfl)) d_str (nomark _)) (dss_one (ds_set (i := 7) sc__law_shape.nd rfl (Or.inl rfl) (d_op o_add (d_lc (own := [("_law_word", 8)]) (t := (.nm 8)) (by rfl) sc__law_shape.nd (di_seq (d_ix i_ix (d_var 6) d_int (fun _ _ => rfl))) (blkOk_by (own := [("_law_word", 8)]) (N := N__law_shape) (sc := defScope s__law_shape) (by decide +kernel)) (fun _ _ _ _ _ => (dg_name (i := 8) sc__law_shape.nd rfl (Or.inl rfl))) (fun _ _ _ _ _ => dts_nil) (fun _ _ _ _ _ => (d_tup (da_cons (d_var 8) da_nil))) (by decide)) (d_lst (da_cons (d_tup (da_cons d_str da_nil)) (da_cons d_non da_nil)))))) dss_nil)
      (dss_one (ds_expr (d_m PySem.F.plainAttrs_list PySem.F.slot_list_append PySem.F.type_list_append m_append (d_var 5) (da_cons (d_ix i_ix (d_var 7) (d_cal C__law_draw (hr.mono (by decide)) (by rfl) passX (da_cons (d_var 0) (da_cons (d_callB c_len (by rfl) T.n_len (by decide +kernel) (da_cons (d_var 7) da_nil)) da_nil))) (fun _ _ => rfl)) da_nil)))))))
      (dss_one (ds_if (dt_cmp (o_eq hr.units) (d_cal C__law_draw (hr.mono (by decide)) (by rfl) passX (da_cons (d_var 0) (da_cons d_int da_nil))) d_int (nomark _)) (dss_one (ds_expr (d_m PySem.F.plainAttrs_list PySem.F.slot_list_append PySem.F.type_list_append m_append (d_var 3) (da_cons d_non da_nil)))) (dss_one (ds_expr (d_m PySem.F.plainAttrs_list PySem.F.slot_list_append PySem.F.type_list_append m_append (d_var 3) (da_cons (d_callTy c_tuple (by rfl) T.n_tuple (by decide +kernel) (da_cons (d_var 5) da_nil)) da_nil)))))))))
      (dss_one (ds_ret (d_callTy c_tuple (by rfl) T.n_tuple (by decide +kernel) (da_cons (d_var 3) da_nil))))))
set_option maxHeartbeats 4000000 in
theorem ok__law_cell (T : Txt mg) {a : Addr} {fd : FuncData} (F : Fun K "_law_cell" "_law_cell" s__law_cell a fd) : FnOk P w K mg base (L2.CX P w) 1 a fd ["_law_tables_here", "_law_operand_here", "_law_record"] (spM K mg (r__law_cell)) :=
  fn_body (N := N__law_cell) F sc__law_cell fun cdv A outer s H E hr =>
      (dss_cons (ds_if (dt_cmp (o_eq hr.units) (d_ix i_ix (d_var 1) d_int (fun _ _ => rfl)) d_str (nomark _)) (dss_one (ds_ret (d_ix i_ix (d_var 1) d_int (fun _ _ => rfl)))) dss_nil)
      (dss_cons (ds_for (passes_of rfl) rfl (di_range1 (by rfl) T.n_range (da_cons (d_callB c_len (by rfl) T.n_len (by decide +kernel) (da_cons (d_var 0) da_nil)) da_nil) (len_cons len_nil)) (dg_name (i := 3) sc__law_cell.nd rfl (Or.inl rfl)) (dss_one (ds_if (dt_w (dw_and (dt_cmp (o_eq hr.units) (d_ix i_ix (d_ix i_ix (d_var 0) (d_var 3) (fun _ _ => rfl)) d_int (fun _ _ => rfl)) (d_ix i_ix (d_var 1) d_int (fun _ _ => rfl)) (nomark _)) (dw_and1 (dt_cmp o_isnot (d_ix i_ix (d_var 2) (d_var 3) (fun _ _ => rfl)) d_non (nomark _))))) (dss_one (ds_for (passes_of rfl) rfl (di_range1 (by rfl) T.n_range (da_cons (d_callB c_len (by rfl) T.n_len (by decide +kernel) (da_cons (d_ix i_ix (d_ix i_ix (d_var 0) (d_var 3) (fun _ _ => rfl)) d_int (fun _ _ => rfl)) da_nil)) da_nil) (len_cons len_nil)) (dg_name (i := 4) sc__law_cell.nd rfl (Or.inl rfl)) (dss_one (ds_if (dt_cmp (o_eq hr.units) (d_ix i_ix (d_ix i_ix (d_ix i_ix (d_ix i_ix (d_var 0) (d_var 3) (fun _ _ => rfl)) d_int (fun _ _ => rfl)) (d_var 4) (fun _ _ => rfl)) d_int (fun _ _ => rfl)) (d_ix i_ix (d_var 1) d_int (fun _ _ => rfl)) (nomark _)) (dss_one (ds_ret (d_ix i_ix (d_ix i_ix (d_var 2) (d_var 3) (fun _ _ => rfl)) (d_var 4) (fun _ _ => rfl)))) dss_nil)))) dss_nil)))
      (dss_one (ds_ret d_non))))
set_option maxHeartbeats 4000000 in
theorem ok__law_holds (T : Txt mg) {n : Nat} {f__law_holds : Mir} (C__law_holds : Cal P w K mg base "_law_holds" (1 + n) ["_law_tables_here", "_law_condition_here", "_law_record"] f__law_holds) {f__law_cell : Mir} (C__law_cell : Cal P w K mg base "_law_cell" 1 ["_law_tables_here", "_law_operand_here", "_law_record"] f__law_cell) {a : Addr} {fd : FuncData} (F : Fun K "_law_holds" "_law_holds" s__law_holds a fd) : FnOk P w K mg base (L2.CX P w) (1 + n + 1) a fd ["_law_tables_here", "_law_condition_here", "_law_record"] (spM K mg (r__law_holds f__law_holds f__law_cell)) :=
  fn_body (N := N__law_holds) F sc__law_holds fun cdv A outer s H E hr =>
      (dss_cons (ds_if (dt_w (dw_or (dt_cmp (o_eq hr.units) (d_ix i_ix (d_var 1) d_int (fun _ _ => rfl)) d_str (nomark _)) (dw_or1 (dt_cmp (o_eq hr.units) (d_ix i_ix (d_var 1) d_int (fun _ _ => rfl)) d_str (nomark _))))) (dss_one (ds_ret (d_cmp (o_eq hr.units) (d_ix i_ix (d_var 1) d_int (fun _ _ => rfl)) d_str (nomark _)))) dss_nil)
      (dss_cons (ds_if (dt_cmp (o_eq hr.units) (d_ix i_ix (d_var 1) d_int (fun _ _ => rfl)) d_str (nomark _)) (dss_cons (ds_for (passes_of rfl) rfl (di_range1 (by rfl) T.n_range (da_cons (d_callB c_len (by rfl) T.n_len (by decide +kernel) (da_cons (d_var 0) da_nil)) da_nil) (len_cons len_nil)) (dg_name (i := 3) sc__law_holds.nd rfl (Or.inl rfl)) (dss_one (ds_if (dt_cmp (o_eq hr.units) (d_ix i_ix (d_ix i_ix (d_var 0) (d_var 3) (fun _ _ => rfl)) d_int (fun _ _ => rfl)) (d_ix i_ix (d_var 1) d_int (fun _ _ => rfl)) (nomark _)) (dss_one (ds_ret (d_cmp o_isnot (d_ix i_ix (d_var 2) (d_var 3) (fun _ _ => rfl)) d_non (nomark _)))) dss_nil)))
      (dss_one (ds_ret d_bl))) dss_nil)
      (dss_cons (ds_if (dt_w (dw_or (dt_cmp (o_eq hr.units) (d_ix i_ix (d_var 1) d_int (fun _ _ => rfl)) d_str (nomark _)) (dw_or1 (dt_cmp (o_eq hr.units) (d_ix i_ix (d_var 1) d_int (fun _ _ => rfl)) d_str (nomark _))))) (dss_cons (ds_set (i := 4) sc__law_holds.nd rfl (Or.inl rfl) (d_cmp (o_eq hr.units) (d_cal C__law_cell (hr.mono (by omega)) (by rfl) passX (da_cons (d_var 0) (da_cons (d_ix i_ix (d_var 1) d_int (fun _ _ => rfl)) (da_cons (d_var 2) da_nil)))) (d_cal C__law_cell (hr.mono (by omega)) (by rfl) passX (da_cons (d_var 0) (da_cons (d_ix i_ix (d_var 1) d_int (fun _ _ => rfl)) (da_cons (d_var 2) da_nil)))) (nomark _)))
      (dss_one (ds_ret (d_cmp (o_eq hr.units) (d_var 4) (d_cmp (o_eq hr.units) (d_ix i_ix (d_var 1) d_int (fun _ _ => rfl)) d_str (nomark _)) (nomark _))))) dss_nil)
      (dss_cons (ds_if (dt_cmp (o_eq hr.units) (d_ix i_ix (d_var 1) d_int (fun _ _ => rfl)) d_str (nomark _)) (dss_one (ds_ret (d_not (d_cal C__law_holds (hr.mono (by omega)) (by rfl) passX (da_cons (d_var 0) (da_cons (d_ix i_ix (d_var 1) d_int (fun _ _ => rfl)) (da_cons (d_var 2) da_nil))))))) dss_nil)
      (dss_cons (ds_for (passes_of rfl) rfl (di_seq (d_ix i_ix (d_var 1) d_int (fun _ _ => rfl))) (dg_name (i := 5) sc__law_holds.nd rfl (Or.inl rfl)) (dss_one (ds_if (dt_cmp (o_ne hr.units) (d_cal C__law_holds (hr.mono (by omega)) (by rfl) passX (da_cons (d_var 0) (da_cons (d_var 5) (da_cons (d_var 2) da_nil)))) (d_cmp (o_eq hr.units) (d_ix i_ix (d_var 1) d_int (fun _ _ => rfl)) d_str (nomark _)) (nomark _)) (dss_one (ds_ret (d_cmp (o_eq hr.units) (d_ix i_ix (d_var 1) d_int (fun _ _ => rfl)) d_str (nomark _)))) dss_nil)))
      (dss_one (ds_ret (d_cmp (o_eq hr.units) (d_ix i_ix (d_var 1) d_int (fun _ _ => rfl)) d_str (nomark _)))))))))
set_option maxHeartbeats 4000000 in
theorem ok__law_deepened (T : Txt mg) {f__law_draw : Mir} (C__law_draw : Cal P w K mg base "_law_draw" 1 ["_law_tape_here", "_law_many_here"] f__law_draw) {a : Addr} {fd : FuncData} (F : Fun K "_law_deepened" "_law_deepened" s__law_deepened a fd) : FnOk P w K mg base (L2.CX P w) 2 a fd ["_law_tape_here", "_law_condition_here", "_law_many_here"] (spM K mg (r__law_deepened f__law_draw)) :=
  fn_body (N := N__law_deepened) F sc__law_deepened fun cdv A outer s H E hr =>
      (dss_cons (ds_for (passes_of rfl) rfl (di_range1 (by rfl) T.n_range (da_cons (d_var 2) da_nil) (len_cons len_nil)) (dg_name (i := 3) sc__law_deepened.nd rfl (Or.inl rfl)) (dss_cons (ds_set (i := 4) sc__law_deepened.nd rfl (Or.inl rfl) (d_cal C__law_draw (hr.mono (by decide)) (by rfl) passX (da_cons (d_var 0) (da_cons d_int da_nil))))
      (dss_cons (ds_if (dt_cmp (o_eq hr.units) (d_var 4) d_int (nomark _)) (dss_one (ds_set (i := 1) sc__law_deepened.nd rfl (Or.inl rfl) (d_tup (da_cons d_str (da_cons (d_var 1) da_nil))))) dss_nil)
      (dss_cons (ds_if (dt_cmp (o_eq hr.units) (d_var 4) d_int (nomark _)) (dss_one (ds_set (i := 1) sc__law_deepened.nd rfl (Or.inl rfl) (d_tup (da_cons d_str (da_cons (d_tup (da_cons (d_tup (da_cons d_str da_nil)) (da_cons (d_var 1) da_nil))) da_nil))))) dss_nil)
      (dss_one (ds_if (dt_cmp (o_eq hr.units) (d_var 4) d_int (nomark _)) (dss_one (ds_set (i := 1) sc__law_deepened.nd rfl (Or.inl rfl) (d_tup (da_cons d_str (da_cons (d_tup (da_cons (d_var 1) (da_cons (d_tup (da_cons d_str da_nil)) da_nil))) da_nil))))) dss_nil))))))
      (dss_one (ds_ret (d_var 1))))
set_option maxHeartbeats 4000000 in
theorem ok__law_large (T : Txt mg) {f__law_draw : Mir} (C__law_draw : Cal P w K mg base "_law_draw" 1 ["_law_tape_here", "_law_many_here"] f__law_draw) {f__law_words : Mir} (C__law_words : Cal P w K mg base "_law_words" 2 ["_law_tape_here", "_law_many_here", "_law_taken"] f__law_words) {a : Addr} {fd : FuncData} (F : Fun K "_law_large" "_law_large" s__law_large a fd) : FnOk P w K mg base (L2.CX P w) 3 a fd ["_law_tape_here", "_law_widest"] (spM K mg (r__law_large f__law_draw f__law_words)) :=
  fn_body (N := N__law_large) F sc__law_large fun cdv A outer s H E hr =>
      (dss_cons (ds_set (i := 2) sc__law_large.nd rfl (Or.inl rfl) (d_cal C__law_words (hr.mono (by decide)) (by rfl) passX (da_cons (d_var 0) (da_cons (d_op o_add d_int (d_cal C__law_draw (hr.mono (by decide)) (by rfl) passX (da_cons (d_var 0) (da_cons d_int da_nil)))) (da_cons (d_lst da_nil) da_nil)))))
      (dss_cons (ds_set (i := 3) sc__law_large.nd rfl (Or.inl rfl) d_int)
      (dss_cons (ds_set (i := 4) sc__law_large.nd rfl (Or.inl rfl) (d_lst da_nil))
      (dss_cons (ds_for (passes_of rfl) rfl (di_range1 (by rfl) T.n_range (da_cons (d_callB c_len (by rfl) T.n_len (by decide +kernel) (da_cons (d_var 2) da_nil)) da_nil) (len_cons len_nil)) (dg_name (i := 5) sc__law_large.nd rfl (Or.inl rfl)) (dss_cons (ds_set (i := 6) sc__law_large.nd rfl (Or.inl rfl) (d_callB (c_min2 rfl) (by rfl) T.n_min (by decide +kernel) (da_cons (d_op o_add d_int (d_cal C__law_draw (hr.mono (by decide)) (by rfl) passX (da_cons (d_var 0) (da_cons d_int da_nil)))) (da_cons (d_op o_sub (d_var 3) (d_op o_sub (d_op o_sub (d_callB c_len (by rfl) T.n_len (by decide +kernel) (da_cons (d_var 2) da_nil)) d_int) (d_var 5))) da_nil))))
      (dss_cons (ds_set (i := 7) sc__law_large.nd rfl (Or.inl rfl) (d_lst da_nil))
      (dss_cons (ds_for (passes_of rfl) rfl (di_seq (d_cal C__law_words (hr.mono (by decide)) (by rfl) passX (da_cons (d_var 0) (da_cons (d_var 6) (da_cons (d_lst da_nil) da_nil))))) (dg_name (i := 8) sc__law_large.nd rfl (Or.inl rfl)) (dss_cons (ds_set (i := 9) sc__law_large.nd rfl (Or.inl rfl) (d_cal C__law_draw (hr.mono (by decide)) (by rfl) passX (da_cons (d_var 0) (da_cons d_int da_nil))))
      (dss_cons (ds_set (i := 10) sc__law_large.nd rfl (Or.inl rfl) d_str)
      (dss_cons (ds_if (dt_cmp (o_eq hr.units) (d_var 9) d_int (nomark _)) (dss_one (ds_set (i := 10) sc__law_large.nd rfl (Or.inl rfl) (d_callTy c_tuple (by rfl) T.n_tuple (by decide +kernel) (da_cons (d_lc (own := [("_law_j", 11)]) (t := (.nm 11)) (by rfl) sc__law_large.nd (di_range1 (by rfl) T.n_range (da_cons (d_ix i_ix (d_lst (da_cons d_int (da_cons d_int (da_cons d_int (da_cons (d_var 1) da_nil))))) (d_cal C__law_draw (hr.mono (by decide)) (by rfl) passX (da_cons (d_var 0) (da_cons d_int da_nil))) (fun _ _ => rfl)) da_nil) (len_cons len_nil)) (blkOk_by (own := [("_law_j", 11)]) (N := N__law_large) (sc := defScope s__law_large) (by decide +kernel)) (fun _ _ _ _ _ => (dg_name (i := 11) sc__law_large.nd rfl (Or.inl rfl))) (fun _ _ _ _ _ => dts_nil) (fun _ _ _ _ _ => (d_op o_add d_str (d_callTy c_str (by rfl) T.n_str (by decide +kernel) (da_cons (d_var 11) da_nil)))) (by decide)) da_nil)))) dss_nil)
      (dss_cons (ds_if (dt_cmp (o_eq hr.units) (d_var 9) d_int (nomark _)) (dss_one (ds_set (i := 10) sc__law_large.nd rfl (Or.inl rfl) (d_callTy c_tuple (by rfl) T.n_tuple (by decide +kernel) (da_cons (d_cal C__law_words (hr.mono (by decide)) (by rfl) passX (da_cons (d_var 0) (da_cons (d_op o_add d_int (d_cal C__law_draw (hr.mono (by decide)) (by rfl) passX (da_cons (d_var 0) (da_cons d_int da_nil)))) (da_cons (d_lst da_nil) da_nil)))) da_nil)))) dss_nil)
      (dss_one (ds_expr (d_m PySem.F.plainAttrs_list PySem.F.slot_list_append PySem.F.type_list_append m_append (d_var 7) (da_cons (d_tup (da_cons (d_var 8) (da_cons (d_var 10) (da_cons (d_cmp (o_eq hr.units) (d_cal C__law_draw (hr.mono (by decide)) (by rfl) passX (da_cons (d_var 0) (da_cons d_int da_nil))) d_int (nomark _)) da_nil)))) da_nil)))))))))
      (dss_cons (ds_set (i := 3) sc__law_large.nd rfl (Or.inl rfl) (d_op o_sub (d_var 3) (d_var 6)))
      (dss_one (ds_expr (d_m PySem.F.plainAttrs_list PySem.F.slot_list_append PySem.F.type_list_append m_append (d_var 4) (da_cons (d_tup (da_cons (d_ix i_ix (d_var 2) (d_var 5) (fun _ _ => rfl)) (da_cons (d_cmp (o_eq hr.units) (d_cal C__law_draw (hr.mono (by decide)) (by rfl) passX (da_cons (d_var 0) (da_cons d_int da_nil))) d_int (nomark _)) (da_cons (d_callTy c_tuple (by rfl) T.n_tuple (by decide +kernel) (da_cons (d_var 7) da_nil)) da_nil)))) da_nil)))))))))
      (dss_one (ds_ret (d_callTy c_tuple (by rfl) T.n_tuple (by decide +kernel) (da_cons (d_var 4) da_nil))))))))
set_option maxHeartbeats 4000000 in
theorem ok__law_any_tables (T : Txt mg) {f__law_tables : Mir} (C__law_tables : Cal P w K mg base "_law_tables" 3 ["_law_tape_here", "_law_most", "_law_many_here", "_law_width"] f__law_tables) {f__law_draw : Mir} (C__law_draw : Cal P w K mg base "_law_draw" 1 ["_law_tape_here", "_law_many_here"] f__law_draw) {f__law_large : Mir} (C__law_large : Cal P w K mg base "_law_large" 3 ["_law_tape_here", "_law_widest"] f__law_large) {a : Addr} {fd : FuncData} (F : Fun K "_law_any_tables" "_law_any_tables" s__law_any_tables a fd) : FnOk P w K mg base (L2.CX P w) 4 a fd ["_law_tape_here", "_law_widest"] (spM K mg (r__law_any_tables f__law_tables f__law_draw f__law_large)) :=
  fn_body (N := N__law_any_tables) F sc__law_any_tables fun cdv A outer s H E hr =>
      (dss_cons (ds_if (dt_cmp (o_eq hr.units) (d_cal C__law_draw (hr.mono (by decide)) (by rfl) passX (da_cons (d_var 0) (da_cons d_int da_nil))) d_int (nomark _)) (dss_one (ds_ret (d_cal C__law_large (hr.mono (by decide)) (by rfl) passX (da_cons (d_var 0) (da_cons (d_var 1) da_nil))))) dss_nil)
      (dss_one (ds_ret (d_cal C__law_tables (hr.mono (by decide)) (by rfl) passX (da_cons (d_var 0) (da_cons (d_op o_pow d_int d_int) (da_cons d_int (da_cons d_int da_nil))))))))
set_option maxHeartbeats 4000000 in
theorem ok_law (T : Txt mg) {f_holds : Mir} (C_holds : Cal P w K mg base "holds" 42 ["tables", "condition", "record"] f_holds) {f__law_holds : Mir} (C__law_holds : Cal P w K mg base "_law_holds" 41 ["_law_tables_here", "_law_condition_here", "_law_record"] f__law_holds) {f__law_shape : Mir} (C__law_shape : Cal P w K mg base "_law_shape" 2 ["_law_tape_here", "_law_tables_here", "_law_texts_here"] f__law_shape) {f__law_texts : Mir} (C__law_texts : Cal P w K mg base "_law_texts" 3 ["_law_tape_here", "_law_many_here", "_law_taken"] f__law_texts) {f__law_draw : Mir} (C__law_draw : Cal P w K mg base "_law_draw" 1 ["_law_tape_here", "_law_many_here"] f__law_draw) {f__law_deepened : Mir} (C__law_deepened : Cal P w K mg base "_law_deepened" 2 ["_law_tape_here", "_law_condition_here", "_law_many_here"] f__law_deepened) {f__law_condition : Mir} (C__law_condition : Cal P w K mg base "_law_condition" 42 ["_law_tape_here", "_law_tables_here", "_law_pool", "_law_words_here", "_law_deep"] f__law_condition) {f__law_value_words : Mir} (C__law_value_words : Cal P w K mg base "_law_value_words" 1 ["_law_tables_here"] f__law_value_words) {f__law_any_tables : Mir} (C__law_any_tables : Cal P w K mg base "_law_any_tables" 4 ["_law_tape_here", "_law_widest"] f__law_any_tables) {f__law_tape : Mir} (C__law_tape : Cal P w K mg base "_law_tape" 1 ["_law_script"] f__law_tape) {a : Addr} {fd : FuncData} (F : Fun K "law" "law" s_law a fd) : FnOk P w K mg base (L2.CX P w) 43 a fd ["_law_script"] (spM K mg (r_law f_holds f__law_holds f__law_shape f__law_texts f__law_draw f__law_deepened f__law_condition f__law_value_words f__law_any_tables f__law_tape)) :=
  fn_body (N := N_law) F sc_law fun cdv A outer s H E hr =>
      (dss_cons (ds_set (i := 1) sc_law.nd rfl (Or.inl rfl) (d_cal C__law_tape (hr.mono (by decide)) (by rfl) passX (da_cons (d_var 0) da_nil)))
      (dss_cons (ds_set (i := 2) sc_law.nd rfl (Or.inl rfl) (d_cal C__law_texts (hr.mono (by decide)) (by rfl) passX (da_cons (d_var 1) (da_cons (d_cal C__law_draw (hr.mono (by decide)) (by rfl) passX (da_cons (d_var 1) (da_cons d_int da_nil))) (da_cons (d_lst da_nil) da_nil)))))
      (dss_cons (ds_set (i := 3) sc_law.nd rfl (Or.inl rfl) (d_cal C__law_any_tables (hr.mono (by decide)) (by rfl) passX (da_cons (d_var 1) (da_cons d_int da_nil))))
      (dss_cons (ds_set (i := 4) sc_law.nd rfl (Or.inl rfl) (d_cal C__law_condition (hr.mono (by decide)) (by rfl) passX (da_cons (d_var 1) (da_cons (d_var 3) (da_cons (d_var 2) (da_cons (d_cal C__law_value_words (hr.mono (by decide)) (by rfl) passX (da_cons (d_var 3) da_nil)) (da_cons (d_ix i_ix (d_lst (da_cons d_int (da_cons d_int (da_cons d_int (da_cons d_int da_nil))))) (d_cal C__law_draw (hr.mono (by decide)) (by rfl) passX (da_cons (d_var 1) (da_cons d_int da_nil))) (fun _ _ => rfl)) da_nil)))))))
      (dss_cons (ds_if (dt_cmp (o_eq hr.units) (d_cal C__law_draw (hr.mono (by decide)) (by rfl) passX (da_cons (d_var 1) (da_cons d_int da_nil))) d_int (nomark _)) (dss_one (ds_set (i := 4) sc_law.nd rfl (Or.inl rfl) (d_cal C__law_deepened (hr.mono (by decide)) (by rfl) passX (da_cons (d_var 1) (da_cons (d_var 4) (da_cons d_int da_nil)))))) dss_nil)
      (dss_cons (ds_set (i := 5) sc_law.nd rfl (Or.inl rfl) (d_op o_add (d_var 2) (d_cal C__law_texts (hr.mono (by decide)) (by rfl) passX (da_cons (d_var 1) (da_cons d_int (da_cons (d_var 2) da_nil))))))
      (dss_cons (ds_set (i := 6) sc_law.nd rfl (Or.inl rfl) (d_cal C__law_shape (hr.mono (by decide)) (by rfl) passX (da_cons (d_var 1) (da_cons (d_var 3) (da_cons (d_var 5) da_nil)))))
      (dss_cons (ds_set (i := 7) sc_law.nd rfl (Or.inl rfl) (d_cal C__law_holds (hr.mono (by decide)) (by rfl) passX (da_cons (d_var 3) (da_cons (d_var 4) (da_cons (d_var 6) da_nil)))))
      (dss_cons (ds_set (i := 8) sc_law.nd rfl (Or.inl rfl) (d_cal C_holds (hr.mono (by decide)) (by rfl) passX (da_cons (d_var 3) (da_cons (d_var 4) (da_cons (d_var 6) da_nil)))))
      (dss_cons (ds_if (dt_w (dw_or (dt_not (dt_of (d_isi (by rfl) T.n_isinstance (by rfl) T.n_bool (by decide +kernel) (d_var 8)))) (dw_or1 (dt_cmp (o_ne hr.units) (d_var 8) (d_var 7) (nomark _))))) (dss_one (ds_ret d_bl)) dss_nil)
      (dss_cons (ds_set (i := 9) sc_law.nd rfl (Or.inl rfl) (d_cal C_holds (hr.mono (by decide)) (by rfl) passX (da_cons (d_var 3) (da_cons (d_tup (da_cons d_str (da_cons (d_var 4) da_nil))) (da_cons (d_var 6) da_nil)))))
      (dss_one (ds_ret (d_and (d_isi (by rfl) T.n_isinstance (by rfl) T.n_bool (by decide +kernel) (d_var 9)) (d_and (d_cmp (o_ne hr.units) (d_var 9) (d_var 7) (nomark _)) (d_one (d_cmp (o_eq hr.units) (d_cal C_holds (hr.mono (by decide)) (by rfl) passX (da_cons (d_var 3) (da_cons (d_var 4) (da_cons (d_var 6) da_nil)))) (d_var 7) (nomark _))))))))))))))))))
end
end LW
namespace LW
open PySem PySem.Spec PyProof.Rows L2 RT RZ DL VL
/-! ### the tape: what a draw gives -/
def absAt (τ : Tau) : Int := if τ.ns.getD τ.pl.toNat 0 < 0 then -τ.ns.getD τ.pl.toNat 0 else τ.ns.getD τ.pl.toNat 0
def drawN (τ : Tau) (m : Int) : Int × Tau :=
  if τ.nx = 0 then
    if τ.pl < τ.ns.length then
      if absAt τ < 1000000000000000000 then
        (((absAt τ * 48271 + τ.pl * 69621 + 5) % 2147483647 * 69621) % 2147483629 % (if 1 > m then 1 else m), { τ with pl := τ.pl + 1, nx := 0 })
      else (absAt τ % (if 1 > m then 1 else m), { τ with pl := τ.pl + 1, nx := absAt τ / (if 2 > m then 2 else m) })
    else ((((τ.tot * 48271 + τ.pl + 1) % 2147483647 * 48271 + τ.pl * 69621 + 5) % 2147483647 * 69621) % 2147483629 % (if 1 > m then 1 else m), { τ with pl := τ.pl + 1, nx := 0, tot := (τ.tot * 48271 + τ.pl + 1) % 2147483647 })
  else (τ.nx % (if 1 > m then 1 else m), { τ with nx := τ.nx / (if 2 > m then 2 else m) })
theorem drawN_ns (τ : Tau) (m : Int) : (drawN τ m).2.ns = τ.ns := by
  unfold drawN
  split
  · split
    · split <;> rfl
    · rfl
  · rfl
theorem drawN_pl (τ : Tau) (m : Int) (h : 0 ≤ τ.pl) : 0 ≤ (drawN τ m).2.pl := by
  unfold drawN
  split
  · split
    · split
      · show 0 ≤ τ.pl + 1; omega
      · show 0 ≤ τ.pl + 1; omega
    · show 0 ≤ τ.pl + 1; omega
  · exact h
theorem mod_in (x m : Int) : 0 ≤ x % (if 1 > m then 1 else m) ∧ x % (if 1 > m then 1 else m) < max m 1 := by
  have h0 : (0 : Int) < (if 1 > m then 1 else m) := by split <;> omega
  exact ⟨Int.emod_nonneg _ (by omega), Int.lt_of_lt_of_le (Int.emod_lt_of_pos _ h0) (by split <;> omega)⟩
theorem drawN_in (τ : Tau) (m : Int) : 0 ≤ (drawN τ m).1 ∧ (drawN τ m).1 < max m 1 := by
  unfold drawN
  split
  · split
    · split
      · exact mod_in _ _
      · exact mod_in _ _
    · exact mod_in _ _
  · exact mod_in _ _
def V__law_draw : MirV
  | [.tape, .int m], τ => if m.natAbs < 2 ^ 62 then some (.ok (.int (drawN τ m).1), (drawN τ m).2) else none
  | _, _ => none
/-- a draw -/
theorem draw_v (τ : Tau) {m : Nat} (h : 0 < m) (h2 : m < 2 ^ 62) : ∃ (k : Nat) (τ' : Tau), V__law_draw [.tape, .int m] τ = some (.ok (.int k), τ') ∧ k < m := by
  obtain ⟨a, b⟩ := drawN_in τ m
  refine ⟨(drawN τ m).1.toNat, (drawN τ m).2, ?_, by omega⟩
  show (if (m : Int).natAbs < 2 ^ 62 then _ else _) = _
  rw [if_pos (by simpa using h2), show (((drawN τ m).1.toNat : Nat) : Int) = (drawN τ m).1 by omega]
theorem draw_lit (τ : Tau) (m : Int) (h : 0 < m := by decide) (h2 : m < 2 ^ 62 := by decide) : ∃ (k : Nat) (τ' : Tau), V__law_draw [.tape, .int m] τ = some (.ok (.int k), τ') ∧ (k : Int) < m := by
  obtain ⟨k, τ', h3, h4⟩ := draw_v (m := m.toNat) τ (by omega) (by omega)
  rw [show ((m.toNat : Nat) : Int) = m by omega] at h3
  exact ⟨k, τ', h3, by omega⟩
theorem small_log {m : Int} (h : m.natAbs < 2 ^ 64) : m.natAbs.log2 < 9000 := by
  by_cases h0 : m.natAbs = 0
  · rw [h0]; decide
  · have := (Nat.log2_lt h0).mpr h
    omega
set_option maxHeartbeats 2000000 in
theorem draw_run {S : Sto} {t s : Nat} {m : Int} {τ : Tau} (T : TpOk t s [] S τ) (hm : m.natAbs < 2 ^ 62) : F__law_draw [.ref t, .int m] S = some (.ok (.int (drawN τ m).1), S.set t (.lst [.ref s, .int (drawN τ m).2.pl, .int (drawN τ m).2.nx, .int (drawN τ m).2.tot])) := by
  obtain ⟨ht, hs, hp, ne⟩ := T
  obtain ⟨ns, p, n, g⟩ := τ
  simp only at ht hs hp
  have lt : t < S.length := lst_lt ht
  have ls : s < S.length := lst_lt hs
  have pos1 : (0 : Int) < (if 1 > m then 1 else m) := by split <;> omega
  have div2' : ∀ n : Int, CDivW n (if 2 > m then 2 else m) := fun n => ⟨by split <;> omega, small_log (by split <;> omega)⟩
  have a0 : ∀ (p n g : Int), atI [D.ref s, .int p, .int n, .int g] 0 = some (.ref s) := fun _ _ _ => rfl
  have a1 : ∀ (p n g : Int), atI [D.ref s, .int p, .int n, .int g] 1 = some (.int p) := fun _ _ _ => rfl
  have a2 : ∀ (p n g : Int), atI [D.ref s, .int p, .int n, .int g] 2 = some (.int n) := fun _ _ _ => rfl
  have a3 : ∀ (p n g : Int), atI [D.ref s, .int p, .int n, .int g] 3 = some (.int g) := fun _ _ _ => rfl
  have gs : ∀ o : O, (S.set t o)[t]? = some o := fun o => List.getElem?_set_self lt
  have gn : ∀ o : O, (S.set t o)[s]? = some (.lst (ns.map D.int)) := fun o => by rw [List.getElem?_set_ne ne]; exact hs
  have i1 : ixN 4 1 = some 1 := rfl
  have i2 : ixN 4 2 = some 2 := rfl
  have i3 : ixN 4 3 = some 3 := rfl
  show r__law_draw [.ref t, .int m] S = _
  by_cases hn : n = 0
  · subst hn
    by_cases hpl : p < ns.length
    · obtain ⟨k, hk⟩ : ∃ k : Nat, p = k := ⟨p.toNat, by omega⟩
      have hk2 : k < ns.length := by omega
      have hat : atI (ns.map D.int) p = some (.int ns[k]) := atI_of hk (by simp [hk2])
      have hg : ns.getD p.toNat 0 = ns[k] := by rw [hk, Int.toNat_natCast, List.getD_eq_getElem?_getD, List.getElem?_eq_getElem hk2]; rfl
      have ha : absAt ⟨ns, p, 0, g⟩ = (if ns[k] < 0 then -ns[k] else ns[k]) := by unfold absAt; rw [hg]
      unfold drawN
      simp only [ha, if_pos hpl]
      by_cases hb : (if ns[k] < 0 then -ns[k] else ns[k]) < 1000000000000000000
      · simp [m__law_draw, E_seq_ref, ht, hs, a0, a1, a2, a3, i1, i2, i3, hpl, hat, gs, gn, hb, pos1]
      · simp [m__law_draw, E_seq_ref, ht, hs, a0, a1, a2, a3, i1, i2, i3, hpl, hat, gs, gn, hb, pos1, E_gFdiv, div2']
    · have hg : (g * 48271 + p + 1) % 2147483647 < 1000000000000000000 := by omega
      unfold drawN
      simp only [if_neg hpl]
      simp [m__law_draw, E_seq_ref, ht, hs, a0, a1, a2, a3, i1, i2, i3, hpl, gs, gn, hg, pos1]
  · unfold drawN
    simp only [if_neg hn]
    simp [m__law_draw, E_seq_ref, ht, hs, a0, a1, a2, a3, i1, i2, i3, gs, gn, hn, pos1, E_gFdiv, div2']
theorem vok__law_draw {t s : Nat} : VOk t s [] F__law_draw V__law_draw := fun A S ds ps τ a q T r τ' e => by
  unfold V__law_draw at e
  split at e
  · rename_i m
    split at e
    · rename_i hm
      cases e
      unfold Rds at q
      obtain ⟨d1, r1, rfl, q1, q2⟩ := q
      unfold Rds at q2
      obtain ⟨d2, r2, rfl, q3, q4⟩ := q2
      unfold Rds at q4
      subst q4
      unfold VL.Rd at q1 q3
      subst q1 q3
      have lt := T.lt
      refine ⟨_, _, draw_run T hm, ⟨by simp, fun n h1 h2 => List.getElem?_set_ne (fun z => h2 z.symm)⟩, ⟨List.getElem?_set_self lt, by rw [List.getElem?_set_ne T.ne, drawN_ns]; exact T.src, drawN_pl τ m T.pos, T.ne⟩, ?_⟩
      show VL.Rd t S A (.int (drawN τ m).1) (.int (drawN τ m).1)
      exact mInt'
    · cases e
  · cases e
set_option maxHeartbeats 1000000 in
theorem tape_ex (ns : List Int) : ∃ τ : Tau, F__law_tape [.ref 0] [.rol (ns.map D.int)] = some (.ok (.ref 2), [.rol (ns.map D.int), .lst (ns.map D.int), .lst [.ref 1, .int τ.pl, .int τ.nx, .int τ.tot]]) ∧ TpOk 2 1 [] [.rol (ns.map D.int), .lst (ns.map D.int), .lst [.ref 1, .int τ.pl, .int τ.nx, .int τ.tot]] τ := by
  suffices h : ∃ g : Int, r__law_tape [.ref 0] [.rol (ns.map D.int)] = some (.ok (.ref 2), [.rol (ns.map D.int), .lst (ns.map D.int), .lst [.ref 1, .int 0, .int 0, .int g]]) by
    obtain ⟨g, h⟩ := h
    exact ⟨⟨ns, 0, 0, g⟩, h, rfl, rfl, Int.le_refl _, by decide⟩
  obtain ⟨env', S', h1, x, y, h2, h3⟩ := forD_all (ok := fun S => seqOf (.ref 0) S = some (ns.map D.int)) (t := .nm 2) (fb := sAsg (.nm 1) (dOp gMod (dCB cInt (dCons (dOp gAdd (dOp gMul (dVar 1) (dC (.int 31))) (dCB cAbs (dCons (dCB cInt (dCons (dVar 2) dNil)) dNil))) dNil)) (dC (.int 2147483647))))
    (fun _ env S => ∃ (x : Int) (y : Option D), env = [some (.ref 0), some (.int x), y] ∧ S = [.rol (ns.map D.int)]) (ns.map D.int) [some (.ref 0), some (.int 7), none] [.rol (ns.map D.int)] (by rintro j env S - ⟨x, y, rfl, rfl⟩; rfl) ⟨7, none, rfl, rfl⟩ (by
      rintro j x env S hx ⟨u, y, rfl, rfl⟩
      obtain ⟨i, -, rfl⟩ : ∃ i, i ∈ ns ∧ D.int i = x := by simpa using List.mem_of_getElem? hx
      exact ⟨_, _, _, rfl, by simp; exact ⟨rfl, rfl⟩, _, _, rfl, rfl⟩)
  subst h2 h3
  refine ⟨x, ?_⟩
  have q0 : seqOf (.ref 0) [O.rol (ns.map D.int)] = some (ns.map D.int) := rfl
  simp [m__law_tape, q0, h1, sizeLine_eq]
/-- it returned True -/
def retT : AnsV → Bool
  | some (.rt (.bl b), _, _) => b
  | _ => false
@[simp] theorem retT_bl (b : Bool) (pe : PE) (τ : Tau) : retT (some (.rt (.bl b), pe, τ)) = b := rfl
theorem retT_ex {x : AnsV} (h : retT x = true) : ∃ pe' τ', x = some (.rt (.bl true), pe', τ') := by
  unfold retT at h
  split at h
  · subst h; exact ⟨_, _, rfl⟩
  · cases h
theorem law_end {i n : Nat} {m R : Ev → Sto → AnsS} {b : PE → Tau → AnsV} (hi : 0 < i ∧ i < n) (e1 : m = sSeq (sAsg (.nm i) (dCall F__law_tape (dCons (dVar 0) dNil))) R) (hR : SimS 2 1 [] R b)
    (h : ∀ τ, retT (b (([none] ++ List.replicate (n - 1) none).set i (some .tape)) τ) = true) (ns : List Int) : ∃ S', runB 1 n m [.ref 0] [.rol (ns.map D.int)] = some (.ok (.bl true), S') := by
  obtain ⟨τ, k1, k2⟩ := tape_ex ns
  obtain ⟨pe', τ', hb⟩ := retT_ex (h τ)
  obtain ⟨S, hS⟩ : ∃ S, S = [O.rol (ns.map D.int), .lst (ns.map D.int), .lst [.ref 1, .int τ.pl, .int τ.nx, .int τ.tot]] := ⟨_, rfl⟩
  have h3 : S.length = 3 := by rw [hS]; rfl
  rw [← hS] at k1 k2
  have rel : Rel 2 3 (fun k => k ≠ 2) (fun _ => none) S (([some (D.ref 0)] ++ List.replicate (n - 1) none).set i (some (.ref 2))) (([none] ++ List.replicate (n - 1) none).set i (some .tape)) := by
    refine ⟨by simp, fun j p e => ?_, fun _ _ _ z => by (cases z), fun _ _ z => by (cases z)⟩
    rcases get_setS e with ⟨rfl, e, hl⟩ | ⟨ne, e⟩
    · cases e
      refine ⟨.ref 2, List.getElem?_set_self (by simpa using hl), RdT.of (by unfold VL.Rd; rfl), fun z => by cases z⟩
    · cases j with
      | zero => simp at e
      | succ j =>
        simp only [List.singleton_append, List.getElem?_cons_succ, List.getElem?_replicate] at e
        split at e <;> cases e
  obtain ⟨r', env', S', o', j1, j2, j3, j4⟩ := hR 3 (fun k => k ≠ 2) _ S _ _ τ ⟨by rw [h3]; exact Nat.le_refl _, fun n h => by omega, fun h => h rfl, by decide⟩ k2 rel _ _ _ hb
  cases r' <;> first | exact j4.elim | skip
  unfold VL.RO VL.Rd at j4
  subst j4
  refine ⟨S', ?_⟩
  rw [e1]
  have e2 : n - 1 + 1 = n := by omega
  simp [k1, j1]
  simp at j1
  rw [j1]
end LW
namespace LW
open PySem PySem.Spec PyProof.Rows L2 RT RZ DL VL
noncomputable def b_table_place_1 : PE → Tau → AnsV :=
    (vIfS (vBl (vOp pEq (vOp pIx (vVar 3) (vC (.int 0))) (vVar 1))) (vRet (vVar 2)) vNext)
noncomputable def b_table_place : PE → Tau → AnsV :=
    (vSeq (vFor (wvEnumC (vCons (vVar 0) vNil)) (.tp [(.nm 2), (.nm 3)]) (b_table_place_1))
    (vRet (vC .non)))
theorem vb_table_place {t s : Nat} : SimS t s [] (m_table_place) (b_table_place) :=
      (vs_seq (vs_for (.tp [(.nm 2), (.nm 3)]) (wv_enumC (va_cons (v_var 0) va_nil)) (vs_if (vt_bl (v_op ov_eq (v_op ov_ix (v_var 3) (v_c fun _ _ => mInt')) (v_var 1))) (vs_ret (v_var 2)) vs_next))
      (vs_ret (v_c fun _ _ => mNon')))
noncomputable def V_table_place : MirV := runV 2 4 (b_table_place)
theorem vok_table_place {t s : Nat} : VOk t s [] F_table_place V_table_place := vok_body (vb_table_place)
noncomputable def b_column_place_1 : PE → Tau → AnsV :=
    (vIfS (vBl (vOp pEq (vOp pIx (vVar 3) (vC (.int 0))) (vVar 1))) (vRet (vVar 2)) vNext)
noncomputable def b_column_place : PE → Tau → AnsV :=
    (vSeq (vFor (wvEnumC (vCons (vOp pIx (vVar 0) (vC (.int 2))) vNil)) (.tp [(.nm 2), (.nm 3)]) (b_column_place_1))
    (vRet (vC .non)))
theorem vb_column_place {t s : Nat} : SimS t s [] (m_column_place) (b_column_place) :=
      (vs_seq (vs_for (.tp [(.nm 2), (.nm 3)]) (wv_enumC (va_cons (v_op ov_ix (v_var 0) (v_c fun _ _ => mInt')) va_nil)) (vs_if (vt_bl (v_op ov_eq (v_op ov_ix (v_var 3) (v_c fun _ _ => mInt')) (v_var 1))) (vs_ret (v_var 2)) vs_next))
      (vs_ret (v_c fun _ _ => mNon')))
noncomputable def V_column_place : MirV := runV 2 4 (b_column_place)
theorem vok_column_place {t s : Nat} : VOk t s [] F_column_place V_column_place := vok_body (vb_column_place)
noncomputable def b_cell_at (g_column_place : MirV) (g_table_place : MirV) : PE → Tau → AnsV :=
    (vSeq (vIfS (vBl (vOp pEq (vOp pIx (vVar 1) (vC (.int 0))) (vC (.str (Str.ofString "cell"))))) (vRet (vOp pIx (vVar 1) (vC (.int 1)))) vNext)
    (vSeq (vAsg (.nm 3) (vCall g_table_place (vCons (vVar 0) (vCons (vOp pIx (vVar 1) (vC (.int 1))) vNil))))
    (vSeq (vAsg (.nm 4) (vOp pIx (vVar 2) (vVar 3)))
    (vSeq (vIfS (vBl (vOp pIs (vVar 4) (vC .non))) (vRet (vC .non)) vNext)
    (vRet (vOp pIx (vVar 4) (vCall g_column_place (vCons (vOp pIx (vVar 0) (vVar 3)) (vCons (vOp pIx (vVar 1) (vC (.int 2))) vNil)))))))))
theorem vb_cell_at {t s : Nat} {f_column_place : Mir} {g_column_place : MirV} (O_column_place : VOk t s [] f_column_place g_column_place) {f_table_place : Mir} {g_table_place : MirV} (O_table_place : VOk t s [] f_table_place g_table_place) : SimS t s [] (m_cell_at f_column_place f_table_place) (b_cell_at g_column_place g_table_place) :=
      (vs_seq (vs_if (vt_bl (v_op ov_eq (v_op ov_ix (v_var 1) (v_c fun _ _ => mInt')) (v_c fun _ _ => mStr'))) (vs_ret (v_op ov_ix (v_var 1) (v_c fun _ _ => mInt'))) vs_next)
      (vs_seq (vs_asg (.nm 3) (v_call O_table_place (va_cons (v_var 0) (va_cons (v_op ov_ix (v_var 1) (v_c fun _ _ => mInt')) va_nil))))
      (vs_seq (vs_asg (.nm 4) (v_op ov_ix (v_var 2) (v_var 3)))
      (vs_seq (vs_if (vt_bl (v_op ov_is (v_var 4) (v_c fun _ _ => mNon'))) (vs_ret (v_c fun _ _ => mNon')) vs_next)
      (vs_ret (v_op ov_ix (v_var 4) (v_call O_column_place (va_cons (v_op ov_ix (v_var 0) (v_var 3)) (va_cons (v_op ov_ix (v_var 1) (v_c fun _ _ => mInt')) va_nil)))))))))
noncomputable def V_cell_at : MirV := runV 3 5 (b_cell_at V_column_place V_table_place)
theorem vok_cell_at {t s : Nat} : VOk t s [] F_cell_at V_cell_at := vok_body (vb_cell_at vok_column_place vok_table_place)
noncomputable def b_holds_1 (g_table_place : MirV) (g_holds : MirV) (g_cell_at : MirV) : PE → Tau → AnsV :=
    (vIfS (vTru (vCall g_holds (vCons (vVar 0) (vCons (vVar 4) (vCons (vVar 2) vNil))))) (vRet (vC (.bl true))) vNext)
noncomputable def b_holds_2 (g_table_place : MirV) (g_holds : MirV) (g_cell_at : MirV) : PE → Tau → AnsV :=
    (vIfS (vNot (vTru (vCall g_holds (vCons (vVar 0) (vCons (vVar 4) (vCons (vVar 2) vNil)))))) (vRet (vC (.bl false))) vNext)
noncomputable def b_holds (g_table_place : MirV) (g_holds : MirV) (g_cell_at : MirV) : PE → Tau → AnsV :=
    (vSeq (vAsg (.nm 3) (vOp pIx (vVar 1) (vC (.int 0))))
    (vSeq (vIfS (vBl (vOp pEq (vVar 3) (vC (.str (Str.ofString "="))))) (vRet (vOp pEq (vCall g_cell_at (vCons (vVar 0) (vCons (vOp pIx (vVar 1) (vC (.int 1))) (vCons (vVar 2) vNil)))) (vCall g_cell_at (vCons (vVar 0) (vCons (vOp pIx (vVar 1) (vC (.int 2))) (vCons (vVar 2) vNil)))))) vNext)
    (vSeq (vIfS (vBl (vOp pEq (vVar 3) (vC (.str (Str.ofString "!="))))) (vRet (vOp pNe (vCall g_cell_at (vCons (vVar 0) (vCons (vOp pIx (vVar 1) (vC (.int 1))) (vCons (vVar 2) vNil)))) (vCall g_cell_at (vCons (vVar 0) (vCons (vOp pIx (vVar 1) (vC (.int 2))) (vCons (vVar 2) vNil)))))) vNext)
    (vSeq (vIfS (vBl (vOp pEq (vVar 3) (vC (.str (Str.ofString "and"))))) (vSeq (vFor (wvSeqC (vOp pIx (vVar 1) (vC (.int 1)))) (.nm 4) (b_holds_2 g_table_place g_holds g_cell_at))
    (vRet (vC (.bl true)))) vNext)
    (vSeq (vIfS (vBl (vOp pEq (vVar 3) (vC (.str (Str.ofString "or"))))) (vSeq (vFor (wvSeqC (vOp pIx (vVar 1) (vC (.int 1)))) (.nm 4) (b_holds_1 g_table_place g_holds g_cell_at))
    (vRet (vC (.bl false)))) vNext)
    (vSeq (vIfS (vBl (vOp pEq (vVar 3) (vC (.str (Str.ofString "not"))))) (vRet (vNotV (vCall g_holds (vCons (vVar 0) (vCons (vOp pIx (vVar 1) (vC (.int 1))) (vCons (vVar 2) vNil)))))) vNext)
    (vSeq (vIfS (vBl (vOp pEq (vVar 3) (vC (.str (Str.ofString "exists"))))) (vRet (vOp pIsNot (vOp pIx (vVar 2) (vCall g_table_place (vCons (vVar 0) (vCons (vOp pIx (vVar 1) (vC (.int 1))) vNil)))) (vC .non))) vNext)
    (vRet (vOp pEq (vVar 3) (vC (.str (Str.ofString "true"))))))))))))
theorem vb_holds {t s : Nat} {f_table_place : Mir} {g_table_place : MirV} (O_table_place : VOk t s [] f_table_place g_table_place) {f_holds : Mir} {g_holds : MirV} (O_holds : VOk t s [] f_holds g_holds) {f_cell_at : Mir} {g_cell_at : MirV} (O_cell_at : VOk t s [] f_cell_at g_cell_at) : SimS t s [] (m_holds f_table_place f_holds f_cell_at) (b_holds g_table_place g_holds g_cell_at) :=
      (vs_seq (vs_asg (.nm 3) (v_op ov_ix (v_var 1) (v_c fun _ _ => mInt')))
      (vs_seq (vs_if (vt_bl (v_op ov_eq (v_var 3) (v_c fun _ _ => mStr'))) (vs_ret (v_op ov_eq (v_call O_cell_at (va_cons (v_var 0) (va_cons (v_op ov_ix (v_var 1) (v_c fun _ _ => mInt')) (va_cons (v_var 2) va_nil)))) (v_call O_cell_at (va_cons (v_var 0) (va_cons (v_op ov_ix (v_var 1) (v_c fun _ _ => mInt')) (va_cons (v_var 2) va_nil)))))) vs_next)
      (vs_seq (vs_if (vt_bl (v_op ov_eq (v_var 3) (v_c fun _ _ => mStr'))) (vs_ret (v_op ov_ne (v_call O_cell_at (va_cons (v_var 0) (va_cons (v_op ov_ix (v_var 1) (v_c fun _ _ => mInt')) (va_cons (v_var 2) va_nil)))) (v_call O_cell_at (va_cons (v_var 0) (va_cons (v_op ov_ix (v_var 1) (v_c fun _ _ => mInt')) (va_cons (v_var 2) va_nil)))))) vs_next)
      (vs_seq (vs_if (vt_bl (v_op ov_eq (v_var 3) (v_c fun _ _ => mStr'))) (vs_seq (vs_for (.nm 4) (wv_seqC (v_op ov_ix (v_var 1) (v_c fun _ _ => mInt'))) (vs_if (vt_not (vt_of (v_call O_holds (va_cons (v_var 0) (va_cons (v_var 4) (va_cons (v_var 2) va_nil)))))) (vs_ret (v_c fun _ _ => mBl')) vs_next))
      (vs_ret (v_c fun _ _ => mBl'))) vs_next)
      (vs_seq (vs_if (vt_bl (v_op ov_eq (v_var 3) (v_c fun _ _ => mStr'))) (vs_seq (vs_for (.nm 4) (wv_seqC (v_op ov_ix (v_var 1) (v_c fun _ _ => mInt'))) (vs_if (vt_of (v_call O_holds (va_cons (v_var 0) (va_cons (v_var 4) (va_cons (v_var 2) va_nil))))) (vs_ret (v_c fun _ _ => mBl')) vs_next))
      (vs_ret (v_c fun _ _ => mBl'))) vs_next)
      (vs_seq (vs_if (vt_bl (v_op ov_eq (v_var 3) (v_c fun _ _ => mStr'))) (vs_ret (v_not (v_call O_holds (va_cons (v_var 0) (va_cons (v_op ov_ix (v_var 1) (v_c fun _ _ => mInt')) (va_cons (v_var 2) va_nil)))))) vs_next)
      (vs_seq (vs_if (vt_bl (v_op ov_eq (v_var 3) (v_c fun _ _ => mStr'))) (vs_ret (v_op ov_isnot (v_op ov_ix (v_var 2) (v_call O_table_place (va_cons (v_var 0) (va_cons (v_op ov_ix (v_var 1) (v_c fun _ _ => mInt')) va_nil)))) (v_c fun _ _ => mNon'))) vs_next)
      (vs_ret (v_op ov_eq (v_var 3) (v_c fun _ _ => mStr'))))))))))
noncomputable def Vn_holds : Nat → MirV
  | 0 => fun _ _ => none
  | n + 1 => runV 3 5 (b_holds V_table_place (Vn_holds n) V_cell_at)
noncomputable abbrev V_holds : MirV := Vn_holds 40
theorem vokn_holds {t s : Nat} : ∀ n, VOk t s [] (Fn_holds n) (Vn_holds n)
  | 0 => vok_none
  | n + 1 => vok_body (vb_holds vok_table_place (vokn_holds n) vok_cell_at)
theorem vok_holds {t s : Nat} : VOk t s [] F_holds V_holds := vokn_holds 40
/-MANUAL _law_draw-/
noncomputable def b__law_reserved : PE → Tau → AnsV :=
    (vRet (vCB qLst (vCons (vC (.str (Str.ofString "table"))) (vCons (vC (.str (Str.ofString "optional"))) (vCons (vC (.str (Str.ofString "text"))) (vCons (vC (.str (Str.ofString "null"))) (vCons (vC (.str (Str.ofString "check"))) (vCons (vC (.str (Str.ofString "and"))) (vCons (vC (.str (Str.ofString "or"))) (vCons (vC (.str (Str.ofString "not"))) (vCons (vC (.str (Str.ofString "exists"))) (vCons (vC (.str (Str.ofString "true"))) (vCons (vC (.str (Str.ofString "false"))) (vCons (vC (.str (Str.ofString "if"))) (vCons (vC (.str (Str.ofString "then"))) (vCons (vC (.str (Str.ofString "else"))) (vCons (vC (.str (Str.ofString "drop"))) (vCons (vC (.str (Str.ofString "when"))) vNil))))))))))))))))))
theorem vb__law_reserved {t s : Nat} : SimS t s [] (m__law_reserved) (b__law_reserved) :=
      (vs_ret (v_cbF cv_lst ls_lst (va_cons (v_c fun _ _ => mStr') (va_cons (v_c fun _ _ => mStr') (va_cons (v_c fun _ _ => mStr') (va_cons (v_c fun _ _ => mStr') (va_cons (v_c fun _ _ => mStr') (va_cons (v_c fun _ _ => mStr') (va_cons (v_c fun _ _ => mStr') (va_cons (v_c fun _ _ => mStr') (va_cons (v_c fun _ _ => mStr') (va_cons (v_c fun _ _ => mStr') (va_cons (v_c fun _ _ => mStr') (va_cons (v_c fun _ _ => mStr') (va_cons (v_c fun _ _ => mStr') (va_cons (v_c fun _ _ => mStr') (va_cons (v_c fun _ _ => mStr') (va_cons (v_c fun _ _ => mStr') va_nil))))))))))))))))).e)
noncomputable def V__law_reserved : MirV := runV 0 0 (b__law_reserved)
theorem vok__law_reserved {t s : Nat} : VOk t s [] F__law_reserved V__law_reserved := vok_body (vb__law_reserved)
noncomputable def b__law_words_2 (g__law_reserved : MirV) (g__law_draw : MirV) : PE → Tau → AnsV :=
    (vSeq (vIfS (vAnd (vBl (vOp pNotIn (vVar 9) (vVar 6))) (vAnd (vBl (vOp pNotIn (vVar 9) (vVar 2))) (vBl (vOp pNotIn (vVar 9) (vCall g__law_reserved vNil))))) vBreak vNext)
    (vAsg (.nm 9) (vOp pAdd (vOp pAdd (vSl (vVar 10) none (some (vC (.int 17)))) (vC (.str (Str.ofString "q")))) (vCB qStr (vCons (vVar 11) vNil)))))
noncomputable def b__law_words_1 (g__law_reserved : MirV) (g__law_draw : MirV) : PE → Tau → AnsV :=
    (vSeq (vAsg (.nm 8) (vCall g__law_draw (vCons (vVar 0) (vCons (vOp pMul (vOp pMul (vOp pMul (vC (.int 26)) (vC (.int 37))) (vC (.int 37))) (vC (.int 3))) vNil))))
    (vSeq (vAsg (.nm 9) (vOp pAdd (vOp pAdd (vOp pIx (vVar 3) (vOp pMod (vCB qInt (vCons (vVar 8) vNil)) (vC (.int 26)))) (vOp pIx (vVar 4) (vOp pMod (vCB qInt (vCons (vOp pFdiv (vVar 8) (vC (.int 26))) vNil)) (vC (.int 37))))) (vOp pIx (vVar 4) (vOp pMod (vCB qInt (vCons (vOp pFdiv (vVar 8) (vC (.int 962))) vNil)) (vC (.int 37))))))
    (vSeq (vAsg (.nm 9) (vSl (vVar 9) none (some (vOp pAdd (vC (.int 1)) (vOp pMod (vCB qInt (vCons (vOp pFdiv (vVar 8) (vC (.int 35594))) vNil)) (vC (.int 3)))))))
    (vSeq (vIfS (vBl (vOp pEq (vVar 5) (vC (.int 1)))) (vAsg (.nm 9) (vOp pAdd (vC (.str (Str.ofString "customer_number_"))) (vVar 9))) vNext)
    (vSeq (vIfS (vBl (vOp pEq (vVar 5) (vC (.int 2)))) (vAsg (.nm 9) (vOp pAdd (vVar 9) (vSl (vC (.str (Str.ofString "_of_the_customer_1"))) none (some (vOp pSub (vC (.int 20)) (vCB qLen (vCons (vVar 9) vNil))))))) vNext)
    (vSeq (vIfS (vBl (vOp pEq (vVar 5) (vC (.int 3)))) (vAsg (.nm 9) (vOp pAdd (vOp pIx (vCall g__law_reserved vNil) (vOp pMod (vCB qInt (vCons (vVar 8) vNil)) (vC (.int 16)))) (vVar 9))) vNext)
    (vSeq (vAsg (.nm 10) (vVar 9))
    (vSeq (vFor (wvRange (vCons (vOp pAdd (vOp pAdd (vCB qLen (vCons (vVar 6) vNil)) (vCB qLen (vCons (vVar 2) vNil))) (vC (.int 2))) vNil)) (.nm 11) (b__law_words_2 g__law_reserved g__law_draw))
    (vAppend 6 (vVar 9))))))))))
noncomputable def b__law_words (g__law_reserved : MirV) (g__law_draw : MirV) : PE → Tau → AnsV :=
    (vSeq (vAsg (.nm 3) (vC (.str (Str.ofString "abcdefghijklmnopqrstuvwxyz"))))
    (vSeq (vAsg (.nm 4) (vOp pAdd (vVar 3) (vC (.str (Str.ofString "0123456789_")))))
    (vSeq (vAsg (.nm 5) (vCall g__law_draw (vCons (vVar 0) (vCons (vC (.int 8)) vNil))))
    (vSeq (vAsgO 6 (vCB qLst vNil))
    (vSeq (vFor (wvRange (vCons (vVar 1) vNil)) (.nm 7) (b__law_words_1 g__law_reserved g__law_draw))
    (vRet (vVar 6)))))))
theorem vb__law_words {t s : Nat} {f__law_reserved : Mir} {g__law_reserved : MirV} (O__law_reserved : VOk t s [] f__law_reserved g__law_reserved) {f__law_draw : Mir} {g__law_draw : MirV} (O__law_draw : VOk t s [] f__law_draw g__law_draw) : SimS t s [] (m__law_words f__law_reserved f__law_draw) (b__law_words g__law_reserved g__law_draw) :=
      (vs_seq (vs_asg (.nm 3) (v_c fun _ _ => mStr'))
      (vs_seq (vs_asg (.nm 4) (v_op ov_add (v_var 3) (v_c fun _ _ => mStr')))
      (vs_seq (vs_asg (.nm 5) (v_call O__law_draw (va_cons (v_var 0) (va_cons (v_c fun _ _ => mInt') va_nil))))
      (vs_seq (vs_asgO 6 (v_cbF cv_lst ls_lst va_nil))
      (vs_seq (vs_for (.nm 7) (wv_range (va_cons (v_var 1) va_nil)) (vs_seq (vs_asg (.nm 8) (v_call O__law_draw (va_cons (v_var 0) (va_cons (v_op ov_mul (v_op ov_mul (v_op ov_mul (v_c fun _ _ => mInt') (v_c fun _ _ => mInt')) (v_c fun _ _ => mInt')) (v_c fun _ _ => mInt')) va_nil))))
      (vs_seq (vs_asg (.nm 9) (v_op ov_add (v_op ov_add (v_op ov_ix (v_var 3) (v_op ov_mod (v_cb cv_int (va_cons (v_var 8) va_nil)) (v_c fun _ _ => mInt'))) (v_op ov_ix (v_var 4) (v_op ov_mod (v_cb cv_int (va_cons (v_op ov_fdiv (v_var 8) (v_c fun _ _ => mInt')) va_nil)) (v_c fun _ _ => mInt')))) (v_op ov_ix (v_var 4) (v_op ov_mod (v_cb cv_int (va_cons (v_op ov_fdiv (v_var 8) (v_c fun _ _ => mInt')) va_nil)) (v_c fun _ _ => mInt')))))
      (vs_seq (vs_asg (.nm 9) (v_sl (v_var 9) vo_none (vo_some (v_op ov_add (v_c fun _ _ => mInt') (v_op ov_mod (v_cb cv_int (va_cons (v_op ov_fdiv (v_var 8) (v_c fun _ _ => mInt')) va_nil)) (v_c fun _ _ => mInt'))))))
      (vs_seq (vs_if (vt_bl (v_op ov_eq (v_var 5) (v_c fun _ _ => mInt'))) (vs_asg (.nm 9) (v_op ov_add (v_c fun _ _ => mStr') (v_var 9))) vs_next)
      (vs_seq (vs_if (vt_bl (v_op ov_eq (v_var 5) (v_c fun _ _ => mInt'))) (vs_asg (.nm 9) (v_op ov_add (v_var 9) (v_sl (v_c fun _ _ => mStr') vo_none (vo_some (v_op ov_sub (v_c fun _ _ => mInt') (v_cb cv_len (va_cons (v_var 9) va_nil))))))) vs_next)
      (vs_seq (vs_if (vt_bl (v_op ov_eq (v_var 5) (v_c fun _ _ => mInt'))) (vs_asg (.nm 9) (v_op ov_add (v_op ov_ix (v_call O__law_reserved va_nil) (v_op ov_mod (v_cb cv_int (va_cons (v_var 8) va_nil)) (v_c fun _ _ => mInt'))) (v_var 9))) vs_next)
      (vs_seq (vs_asg (.nm 10) (v_var 9))
      (vs_seq (vs_for (.nm 11) (wv_range (va_cons (v_op ov_add (v_op ov_add (v_cb cv_len (va_cons (v_var 6) va_nil)) (v_cb cv_len (va_cons (v_var 2) va_nil))) (v_c fun _ _ => mInt')) va_nil)) (vs_seq (vs_if (vt_and (vt_bl (v_op ov_notin (v_var 9) (v_var 6))) (vt_and (vt_bl (v_op ov_notin (v_var 9) (v_var 2))) (vt_bl (v_op ov_notin (v_var 9) (v_call O__law_reserved va_nil))))) vs_break vs_next)
      (vs_asg (.nm 9) (v_op ov_add (v_op ov_add (v_sl (v_var 10) vo_none (vo_some (v_c fun _ _ => mInt'))) (v_c fun _ _ => mStr')) (v_cb cv_str (va_cons (v_var 11) va_nil))))))
      (vs_append 6 (v_var 9)))))))))))
      (vs_ret (v_var 6)))))))
noncomputable def V__law_words : MirV := runV 3 12 (b__law_words V__law_reserved V__law_draw)
theorem vok__law_words {t s : Nat} : VOk t s [] F__law_words V__law_words := vok_body (vb__law_words vok__law_reserved vok__law_draw)
noncomputable def b__law_text (g__law_draw : MirV) : PE → Tau → AnsV :=
    (vSeq (vAsg (.nm 1) (vC (.str (Str.ofString " !#$&'()*+,-./0123456789:;<=>?@ABCDEFGHIJKLMNOPQRSTUVWXYZ[\\]^_`abcdefghijklmnopqrstuvwxyz{|}~"))))
    (vSeq (vAsg (.nm 2) (vCall g__law_draw (vCons (vVar 0) (vCons (vC (.int 24)) vNil))))
    (vSeq (vIfS (vBl (vOp pLt (vVar 2) (vC (.int 12)))) (vRet (vOp pIx (vCB qLst (vCons (vC (.str (Str.ofString ""))) (vCons (vC (.str (Str.ofString "v1"))) (vCons (vC (.str (Str.ofString "v2"))) (vCons (vC (.str (Str.ofString "v3"))) (vCons (vC (.str (Str.ofString "c1"))) (vCons (vC (.str (Str.ofString "c2"))) (vCons (vC (.str (Str.ofString " "))) (vCons (vC (.str (Str.ofString "null"))) (vCons (vC (.str (Str.ofString "v01"))) (vCons (vC (.str (Str.ofString "V1"))) (vCons (vC (.str (Str.ofString "v10"))) (vCons (vC (.str (Str.ofString "x"))) vNil))))))))))))) (vVar 2))) vNext)
    (vSeq (vAsg (.nm 3) (vCall g__law_draw (vCons (vVar 0) (vCons (vOp pMul (vOp pMul (vC (.int 93)) (vC (.int 93))) (vC (.int 144))) vNil))))
    (vSeq (vAsg (.nm 4) (vOp pAdd (vC (.int 1)) (vOp pMod (vCB qInt (vCons (vVar 3) vNil)) (vC (.int 12)))))
    (vSeq (vAsg (.nm 5) (vOp pMod (vCB qInt (vCons (vOp pFdiv (vVar 3) (vC (.int 12))) vNil)) (vVar 4)))
    (vSeq (vAsg (.nm 6) (vOp pIx (vVar 1) (vOp pMod (vCB qInt (vCons (vOp pFdiv (vVar 3) (vC (.int 144))) vNil)) (vC (.int 93)))))
    (vRet (vOp pAdd (vOp pAdd (vOp pMul (vVar 6) (vVar 5)) (vOp pIx (vVar 1) (vOp pMod (vCB qInt (vCons (vOp pFdiv (vVar 3) (vC (.int 13392))) vNil)) (vC (.int 93))))) (vOp pMul (vVar 6) (vOp pSub (vOp pSub (vVar 4) (vVar 5)) (vC (.int 1)))))))))))))
theorem vb__law_text {t s : Nat} {f__law_draw : Mir} {g__law_draw : MirV} (O__law_draw : VOk t s [] f__law_draw g__law_draw) : SimS t s [] (m__law_text f__law_draw) (b__law_text g__law_draw) :=
      (vs_seq (vs_asg (.nm 1) (v_c fun _ _ => mStr'))
      (vs_seq (vs_asg (.nm 2) (v_call O__law_draw (va_cons (v_var 0) (va_cons (v_c fun _ _ => mInt') va_nil))))
      (vs_seq (vs_if (vt_bl (v_op ov_lt (v_var 2) (v_c fun _ _ => mInt'))) (vs_ret (v_op ov_ix (v_cbF cv_lst ls_lst (va_cons (v_c fun _ _ => mStr') (va_cons (v_c fun _ _ => mStr') (va_cons (v_c fun _ _ => mStr') (va_cons (v_c fun _ _ => mStr') (va_cons (v_c fun _ _ => mStr') (va_cons (v_c fun _ _ => mStr') (va_cons (v_c fun _ _ => mStr') (va_cons (v_c fun _ _ => mStr') (va_cons (v_c fun _ _ => mStr') (va_cons (v_c fun _ _ => mStr') (va_cons (v_c fun _ _ => mStr') (va_cons (v_c fun _ _ => mStr') va_nil))))))))))))).e (v_var 2))) vs_next)
      (vs_seq (vs_asg (.nm 3) (v_call O__law_draw (va_cons (v_var 0) (va_cons (v_op ov_mul (v_op ov_mul (v_c fun _ _ => mInt') (v_c fun _ _ => mInt')) (v_c fun _ _ => mInt')) va_nil))))
      (vs_seq (vs_asg (.nm 4) (v_op ov_add (v_c fun _ _ => mInt') (v_op ov_mod (v_cb cv_int (va_cons (v_var 3) va_nil)) (v_c fun _ _ => mInt'))))
      (vs_seq (vs_asg (.nm 5) (v_op ov_mod (v_cb cv_int (va_cons (v_op ov_fdiv (v_var 3) (v_c fun _ _ => mInt')) va_nil)) (v_var 4)))
      (vs_seq (vs_asg (.nm 6) (v_op ov_ix (v_var 1) (v_op ov_mod (v_cb cv_int (va_cons (v_op ov_fdiv (v_var 3) (v_c fun _ _ => mInt')) va_nil)) (v_c fun _ _ => mInt'))))
      (vs_ret (v_op ov_add (v_op ov_add (v_op ov_mul (v_var 6) (v_var 5)) (v_op ov_ix (v_var 1) (v_op ov_mod (v_cb cv_int (va_cons (v_op ov_fdiv (v_var 3) (v_c fun _ _ => mInt')) va_nil)) (v_c fun _ _ => mInt')))) (v_op ov_mul (v_var 6) (v_op ov_sub (v_op ov_sub (v_var 4) (v_var 5)) (v_c fun _ _ => mInt'))))))))))))
noncomputable def V__law_text : MirV := runV 1 7 (b__law_text V__law_draw)
theorem vok__law_text {t s : Nat} : VOk t s [] F__law_text V__law_text := vok_body (vb__law_text vok__law_draw)
noncomputable def b__law_texts_2 (g__law_text : MirV) : PE → Tau → AnsV :=
    (vSeq (vIfS (vAnd (vBl (vOp pNotIn (vVar 5) (vVar 3))) (vBl (vOp pNotIn (vVar 5) (vVar 2)))) vBreak vNext)
    (vAsg (.nm 5) (vOp pAdd (vC (.str (Str.ofString "t"))) (vCB qStr (vCons (vVar 6) vNil)))))
noncomputable def b__law_texts_1 (g__law_text : MirV) : PE → Tau → AnsV :=
    (vSeq (vAsg (.nm 5) (vCall g__law_text (vCons (vVar 0) vNil)))
    (vSeq (vFor (wvRange (vCons (vOp pAdd (vOp pAdd (vCB qLen (vCons (vVar 3) vNil)) (vCB qLen (vCons (vVar 2) vNil))) (vC (.int 3))) vNil)) (.nm 6) (b__law_texts_2 g__law_text))
    (vAppend 3 (vVar 5))))
noncomputable def b__law_texts (g__law_text : MirV) : PE → Tau → AnsV :=
    (vSeq (vAsgO 3 (vCB qLst vNil))
    (vSeq (vFor (wvRange (vCons (vVar 1) vNil)) (.nm 4) (b__law_texts_1 g__law_text))
    (vRet (vVar 3))))
theorem vb__law_texts {t s : Nat} {f__law_text : Mir} {g__law_text : MirV} (O__law_text : VOk t s [] f__law_text g__law_text) : SimS t s [] (m__law_texts f__law_text) (b__law_texts g__law_text) :=
      (vs_seq (vs_asgO 3 (v_cbF cv_lst ls_lst va_nil))
      (vs_seq (vs_for (.nm 4) (wv_range (va_cons (v_var 1) va_nil)) (vs_seq (vs_asg (.nm 5) (v_call O__law_text (va_cons (v_var 0) va_nil)))
      (vs_seq (vs_for (.nm 6) (wv_range (va_cons (v_op ov_add (v_op ov_add (v_cb cv_len (va_cons (v_var 3) va_nil)) (v_cb cv_len (va_cons (v_var 2) va_nil))) (v_c fun _ _ => mInt')) va_nil)) (vs_seq (vs_if (vt_and (vt_bl (v_op ov_notin (v_var 5) (v_var 3))) (vt_bl (v_op ov_notin (v_var 5) (v_var 2)))) vs_break vs_next)
      (vs_asg (.nm 5) (v_op ov_add (v_c fun _ _ => mStr') (v_cb cv_str (va_cons (v_var 6) va_nil))))))
      (vs_append 3 (v_var 5)))))
      (vs_ret (v_var 3))))
noncomputable def V__law_texts : MirV := runV 3 7 (b__law_texts V__law_text)
theorem vok__law_texts {t s : Nat} : VOk t s [] F__law_texts V__law_texts := vok_body (vb__law_texts vok__law_text)
noncomputable def b__law_many_2 : PE → Tau → AnsV :=
    (vSetI 4 (vOp pAdd (vOp pIx (vVar 4) (vVar 8)) (vOp pIx (vVar 2) (vVar 8))) (vVar 8))
noncomputable def b__law_many_4 : PE → Tau → AnsV :=
    (vSeq (vAsg (.nm 9) (vC (.int 0)))
    (vSeq (vIfS (vBl (vOp pLt (vVar 8) (vCB qLen (vCons (vVar 4) vNil)))) (vAsg (.nm 9) (vOp pMul (vOp pAdd (vOp pAdd (vVar 1) (vVar 8)) (vVar 6)) (vOp pIx (vVar 4) (vVar 8)))) vNext)
    (vSeq (vIfS (vBl (vOp pGt (vVar 8) (vC (.int 0)))) (vAsg (.nm 9) (vOp pAdd (vVar 9) (vOp pIx (vVar 4) (vOp pSub (vVar 8) (vC (.int 1)))))) vNext)
    (vAppend 7 (vVar 9)))))
noncomputable def b__law_many_3 : PE → Tau → AnsV :=
    (vSeq (vAsg (.nm 6) (vCB qInt (vCons (vOp pIx (vVar 5) (vC (.int 2))) vNil)))
    (vIfS (vBl (vOp pEq (vOp pIx (vVar 5) (vC (.int 1))) (vC (.str (Str.ofString "text"))))) (vSeq (vAsgO 7 (vCB qLst vNil))
    (vSeq (vFor (wvRange (vCons (vOp pAdd (vCB qLen (vCons (vVar 4) vNil)) (vC (.int 1))) vNil)) (.nm 8) (b__law_many_4))
    (vMove 4 7))) (vAsgO 4 (vLc (wvSeq (vVar 4)) (.nm 9) vTrue (vOp pMul (vVar 9) (vOp pAdd (vCB qLen (vCons (vOp pIx (vVar 5) (vC (.int 1))) vNil)) (vVar 6))) [9]))))
noncomputable def b__law_many_1 : PE → Tau → AnsV :=
    (vSeq (vAsgO 4 (vCB qList (vCons (vVar 2) vNil)))
    (vSeq (vFor (wvSeqC (vOp pIx (vVar 3) (vC (.int 2)))) (.nm 5) (b__law_many_3))
    (vSeq (vIfS (vTru (vOp pIx (vVar 3) (vC (.int 1)))) (vFor (wvRange (vCons (vCB qLen (vCons (vVar 2) vNil)) vNil)) (.nm 8) (b__law_many_2)) vNext)
    (vThaw 4 (vAsg (.nm 2) (vVar 4))))))
noncomputable def b__law_many : PE → Tau → AnsV :=
    (vSeq (vAsg (.nm 2) (vCB qLst (vCons (vC (.int 1)) vNil)))
    (vSeq (vFor (wvSeqC (vVar 0)) (.nm 3) (b__law_many_1))
    (vRet (vCB qSum (vCons (vVar 2) vNil)))))
theorem vb__law_many {t s : Nat} : SimS t s [] (m__law_many) (b__law_many) :=
      (vs_seq (vs_asg (.nm 2) (v_cbF cv_lst ls_lst (va_cons (v_c fun _ _ => mInt') va_nil)).e)
      (vs_seq (vs_for (.nm 3) (wv_seqC (v_var 0)) (vs_seq (vs_asgO 4 (v_cbF cv_list ls_list (va_cons (v_var 2) va_nil)))
      (vs_seq (vs_for (.nm 5) (wv_seqC (v_op ov_ix (v_var 3) (v_c fun _ _ => mInt'))) (vs_seq (vs_asg (.nm 6) (v_cb cv_int (va_cons (v_op ov_ix (v_var 5) (v_c fun _ _ => mInt')) va_nil)))
      (vs_if (vt_bl (v_op ov_eq (v_op ov_ix (v_var 5) (v_c fun _ _ => mInt')) (v_c fun _ _ => mStr'))) (vs_seq (vs_asgO 7 (v_cbF cv_lst ls_lst va_nil))
      (vs_seq (vs_for (.nm 8) (wv_range (va_cons (v_op ov_add (v_cb cv_len (va_cons (v_var 4) va_nil)) (v_c fun _ _ => mInt')) va_nil)) (vs_seq (vs_asg (.nm 9) (v_c fun _ _ => mInt'))
      (vs_seq (vs_if (vt_bl (v_op ov_lt (v_var 8) (v_cb cv_len (va_cons (v_var 4) va_nil)))) (vs_asg (.nm 9) (v_op ov_mul (v_op ov_add (v_op ov_add (v_var 1) (v_var 8)) (v_var 6)) (v_op ov_ix (v_var 4) (v_var 8)))) vs_next)
      (vs_seq (vs_if (vt_bl (v_op ov_gt (v_var 8) (v_c fun _ _ => mInt'))) (vs_asg (.nm 9) (v_op ov_add (v_var 9) (v_op ov_ix (v_var 4) (v_op ov_sub (v_var 8) (v_c fun _ _ => mInt'))))) vs_next)
      (vs_append 7 (v_var 9))))))
      (vs_move 4 7))) (vs_asgO 4 (v_lc (.nm 9) [9] (wv_seq (v_var 4)) vt_tr (v_op ov_mul (v_var 9) (v_op ov_add (v_cb cv_len (va_cons (v_op ov_ix (v_var 5) (v_c fun _ _ => mInt')) va_nil)) (v_var 6))))))))
      (vs_seq (vs_if (vt_of (v_op ov_ix (v_var 3) (v_c fun _ _ => mInt'))) (vs_for (.nm 8) (wv_range (va_cons (v_cb cv_len (va_cons (v_var 2) va_nil)) va_nil)) (vs_setI 4 (v_op ov_add (v_op ov_ix (v_var 4) (v_var 8)) (v_op ov_ix (v_var 2) (v_var 8))) (v_var 8))) vs_next)
      (vs_thaw 4 (vs_asg (.nm 2) (v_var 4)))))))
      (vs_ret (v_cb cv_sum (va_cons (v_var 2) va_nil)))))
noncomputable def V__law_many : MirV := runV 2 10 (b__law_many)
theorem vok__law_many {t s : Nat} : VOk t s [] F__law_many V__law_many := vok_body (vb__law_many)
noncomputable def b__law_textual_1 : PE → Tau → AnsV :=
    (vAsg (.nm 1) (vOp pAdd (vVar 1) (vLc (wvSeq (vOp pIx (vVar 2) (vC (.int 2)))) (.nm 3) (vBl (vOp pEq (vOp pIx (vVar 3) (vC (.int 1))) (vC (.str (Str.ofString "text"))))) (vCB qTup (vCons (vOp pIx (vVar 2) (vC (.int 0))) (vCons (vOp pIx (vVar 3) (vC (.int 0))) vNil))) [3])))
noncomputable def b__law_textual : PE → Tau → AnsV :=
    (vSeq (vAsg (.nm 1) (vCB qLst vNil))
    (vSeq (vFor (wvSeqC (vVar 0)) (.nm 2) (b__law_textual_1))
    (vRet (vVar 1))))
theorem vb__law_textual {t s : Nat} : SimS t s [] (m__law_textual) (b__law_textual) :=
      (vs_seq (vs_asg (.nm 1) (v_cbF cv_lst ls_lst va_nil).e)
      (vs_seq (vs_for (.nm 2) (wv_seqC (v_var 0)) (vs_asg (.nm 1) (v_op ov_add (v_var 1) (v_lc (.nm 3) [3] (wv_seq (v_op ov_ix (v_var 2) (v_c fun _ _ => mInt'))) (vt_bl (v_op ov_eq (v_op ov_ix (v_var 3) (v_c fun _ _ => mInt')) (v_c fun _ _ => mStr'))) (v_cb cv_tup (va_cons (v_op ov_ix (v_var 2) (v_c fun _ _ => mInt')) (va_cons (v_op ov_ix (v_var 3) (v_c fun _ _ => mInt')) va_nil)))).e)))
      (vs_ret (v_var 1))))
noncomputable def V__law_textual : MirV := runV 1 4 (b__law_textual)
theorem vok__law_textual {t s : Nat} : VOk t s [] F__law_textual V__law_textual := vok_body (vb__law_textual)
noncomputable def b__law_tables_2 (g__law_words : MirV) (g__law_draw : MirV) (g__law_many : MirV) (g__law_textual : MirV) : PE → Tau → AnsV :=
    (vSeq (vAsg (.nm 9) (vC (.str (Str.ofString "text"))))
    (vSeq (vIfS (vOr (vBl (vOp pLt (vCall g__law_draw (vCons (vVar 0) (vCons (vC (.int 5)) vNil))) (vC (.int 2)))) (vBl (vOp pGe (vLend 7 (vCB qLen (vCons (vCall g__law_textual (vCons (vOp pAdd (vVar 4) (vCB qLst (vCons (vCB qTup (vCons (vVar 5) (vCons (vVar 6) (vCons (vVar 7) vNil)))) vNil))) vNil)) vNil))) (vVar 3)))) (vAsg (.nm 9) (vCB qTuple (vCons (vCall g__law_words (vCons (vVar 0) (vCons (vOp pIx (vCB qLst (vCons (vC (.int 1)) (vCons (vC (.int 2)) (vCons (vC (.int 3)) (vCons (vC (.int 1)) (vCons (vC (.int 2)) (vCons (vC (.int 3)) (vCons (vC (.int 2)) (vCons (vC (.int 7)) vNil))))))))) (vCall g__law_draw (vCons (vVar 0) (vCons (vC (.int 8)) vNil)))) (vCons (vCB qLst vNil) vNil)))) vNil))) vNext)
    (vSeq (vAsg (.nm 10) (vCB qTup (vCons (vVar 8) (vCons (vVar 9) (vCons (vOp pEq (vCall g__law_draw (vCons (vVar 0) (vCons (vC (.int 3)) vNil))) (vC (.int 0))) vNil)))))
    (vSeq (vAsg (.nm 11) (vOp pAdd (vCB qSum (vCons (vLc (wvSeq (vVar 4)) (.nm 12) vTrue (vCB qLen (vCons (vOp pIx (vVar 12) (vC (.int 2))) vNil)) [12]) vNil)) (vCB qLen (vCons (vVar 7) vNil))))
    (vIfS (vAnd (vBl (vOp pLt (vVar 11) (vC (.int 6)))) (vBl (vOp pLe (vCall g__law_many (vCons (vOp pAdd (vVar 4) (vCB qLst (vCons (vCB qTup (vCons (vVar 5) (vCons (vVar 6) (vCons (vOp pAdd (vVar 7) (vCB qLst (vCons (vVar 10) vNil))) vNil)))) vNil))) (vCons (vVar 2) vNil))) (vVar 1)))) (vAppend 7 (vVar 10)) vNext)))))
noncomputable def b__law_tables_1 (g__law_words : MirV) (g__law_draw : MirV) (g__law_many : MirV) (g__law_textual : MirV) : PE → Tau → AnsV :=
    (vSeq (vAsg (.nm 6) (vOp pEq (vCall g__law_draw (vCons (vVar 0) (vCons (vC (.int 3)) vNil))) (vC (.int 0))))
    (vSeq (vAsgO 7 (vCB qLst vNil))
    (vSeq (vFor (wvSeqC (vCall g__law_words (vCons (vVar 0) (vCons (vOp pIx (vCB qLst (vCons (vC (.int 1)) (vCons (vC (.int 1)) (vCons (vC (.int 2)) (vCons (vC (.int 2)) (vCons (vC (.int 3)) (vCons (vC (.int 4)) vNil))))))) (vCall g__law_draw (vCons (vVar 0) (vCons (vC (.int 6)) vNil)))) (vCons (vCB qLst vNil) vNil))))) (.nm 8) (b__law_tables_2 g__law_words g__law_draw g__law_many g__law_textual))
    (vSeq (vIfS (vNot (vTru (vVar 7))) (vAppend 7 (vCB qTup (vCons (vC (.str (Str.ofString "only"))) (vCons (vCB qTup (vCons (vC (.str (Str.ofString "one"))) vNil)) (vCons (vC (.bl false)) vNil))))) vNext)
    (vSeq (vAsg (.nm 11) (vOp pAdd (vCB qSum (vCons (vLc (wvSeq (vVar 4)) (.nm 12) vTrue (vCB qLen (vCons (vOp pIx (vVar 12) (vC (.int 2))) vNil)) [12]) vNil)) (vCB qLen (vCons (vVar 7) vNil))))
    (vIfS (vOr (vNot (vTru (vVar 4))) (vAnd (vBl (vOp pLe (vVar 11) (vC (.int 6)))) (vBl (vOp pLe (vLend 7 (vCall g__law_many (vCons (vOp pAdd (vVar 4) (vCB qLst (vCons (vCB qTup (vCons (vVar 5) (vCons (vVar 6) (vCons (vVar 7) vNil)))) vNil))) (vCons (vVar 2) vNil)))) (vVar 1))))) (vAppend 4 (vCB qTup (vCons (vVar 5) (vCons (vVar 6) (vCons (vCB qTuple (vCons (vVar 7) vNil)) vNil))))) vNext))))))
noncomputable def b__law_tables (g__law_words : MirV) (g__law_draw : MirV) (g__law_many : MirV) (g__law_textual : MirV) : PE → Tau → AnsV :=
    (vSeq (vAsgO 4 (vCB qLst vNil))
    (vSeq (vFor (wvSeqC (vCall g__law_words (vCons (vVar 0) (vCons (vOp pIx (vCB qLst (vCons (vC (.int 1)) (vCons (vC (.int 1)) (vCons (vC (.int 1)) (vCons (vC (.int 2)) (vCons (vC (.int 2)) (vCons (vC (.int 3)) vNil))))))) (vCall g__law_draw (vCons (vVar 0) (vCons (vC (.int 6)) vNil)))) (vCons (vCB qLst vNil) vNil))))) (.nm 5) (b__law_tables_1 g__law_words g__law_draw g__law_many g__law_textual))
    (vRet (vCB qTuple (vCons (vVar 4) vNil)))))
theorem vb__law_tables {t s : Nat} {f__law_words : Mir} {g__law_words : MirV} (O__law_words : VOk t s [] f__law_words g__law_words) {f__law_draw : Mir} {g__law_draw : MirV} (O__law_draw : VOk t s [] f__law_draw g__law_draw) {f__law_many : Mir} {g__law_many : MirV} (O__law_many : VOk t s [] f__law_many g__law_many) {f__law_textual : Mir} {g__law_textual : MirV} (O__law_textual : VOk t s [] f__law_textual g__law_textual) : SimS t s [] (m__law_tables f__law_words f__law_draw f__law_many f__law_textual) (b__law_tables g__law_words g__law_draw g__law_many g__law_textual) :=
      (vs_seq (vs_asgO 4 (v_cbF cv_lst ls_lst va_nil))
      (vs_seq (vs_for (.nm 5) (wv_seqC (v_call O__law_words (va_cons (v_var 0) (va_cons (v_op ov_ix (v_cbF cv_lst ls_lst (va_cons (v_c fun _ _ => mInt') (va_cons (v_c fun _ _ => mInt') (va_cons (v_c fun _ _ => mInt') (va_cons (v_c fun _ _ => mInt') (va_cons (v_c fun _ _ => mInt') (va_cons (v_c fun _ _ => mInt') va_nil))))))).e (v_call O__law_draw (va_cons (v_var 0) (va_cons (v_c fun _ _ => mInt') va_nil)))) (va_cons (v_cbF cv_lst ls_lst va_nil).e va_nil))))) (vs_seq (vs_asg (.nm 6) (v_op ov_eq (v_call O__law_draw (va_cons (v_var 0) (va_cons (v_c fun _ _ => mInt') va_nil))) (v_c fun _ _ => mInt')))
      (vs_seq (vs_asgO 7 (v_cbF cv_lst ls_lst va_nil))
      (vs_seq (vs_for (.nm 8) (wv_seqC (v_call O__law_words (va_cons (v_var 0) (va_cons (v_op ov_ix (v_cbF cv_lst ls_lst (va_cons (v_c fun _ _ => mInt') (va_cons (v_c fun _ _ => mInt') (va_cons (v_c fun _ _ => mInt') (va_cons (v_c fun _ _ => mInt') (va_cons (v_c fun _ _ => mInt') (va_cons (v_c fun _ _ => mInt') va_nil))))))).e (v_call O__law_draw (va_cons (v_var 0) (va_cons (v_c fun _ _ => mInt') va_nil)))) (va_cons (v_cbF cv_lst ls_lst va_nil).e va_nil))))) (vs_seq (vs_asg (.nm 9) (v_c fun _ _ => mStr'))
      (vs_seq (vs_if (vt_or (vt_bl (v_op ov_lt (v_call O__law_draw (va_cons (v_var 0) (va_cons (v_c fun _ _ => mInt') va_nil))) (v_c fun _ _ => mInt'))) (vt_bl (v_op ov_ge (v_lend 7 (v_cb cv_len (va_cons (v_call O__law_textual (va_cons (v_op ov_add (v_var 4) (v_cbF cv_lst ls_lst (va_cons (v_cb cv_tup (va_cons (v_var 5) (va_cons (v_var 6) (va_cons (v_var 7) va_nil)))) va_nil)).e) va_nil)) va_nil))) (v_var 3)))) (vs_asg (.nm 9) (v_cb cv_tuple (va_cons (v_call O__law_words (va_cons (v_var 0) (va_cons (v_op ov_ix (v_cbF cv_lst ls_lst (va_cons (v_c fun _ _ => mInt') (va_cons (v_c fun _ _ => mInt') (va_cons (v_c fun _ _ => mInt') (va_cons (v_c fun _ _ => mInt') (va_cons (v_c fun _ _ => mInt') (va_cons (v_c fun _ _ => mInt') (va_cons (v_c fun _ _ => mInt') (va_cons (v_c fun _ _ => mInt') va_nil))))))))).e (v_call O__law_draw (va_cons (v_var 0) (va_cons (v_c fun _ _ => mInt') va_nil)))) (va_cons (v_cbF cv_lst ls_lst va_nil).e va_nil)))) va_nil))) vs_next)
      (vs_seq (vs_asg (.nm 10) (v_cb cv_tup (va_cons (v_var 8) (va_cons (v_var 9) (va_cons (v_op ov_eq (v_call O__law_draw (va_cons (v_var 0) (va_cons (v_c fun _ _ => mInt') va_nil))) (v_c fun _ _ => mInt')) va_nil)))))
      (vs_seq (vs_asg (.nm 11) (v_op ov_add (v_cb cv_sum (va_cons (v_lc (.nm 12) [12] (wv_seq (v_var 4)) vt_tr (v_cb cv_len (va_cons (v_op ov_ix (v_var 12) (v_c fun _ _ => mInt')) va_nil))).e va_nil)) (v_cb cv_len (va_cons (v_var 7) va_nil))))
      (vs_if (vt_and (vt_bl (v_op ov_lt (v_var 11) (v_c fun _ _ => mInt'))) (vt_bl (v_op ov_le (v_call O__law_many (va_cons (v_op ov_add (v_var 4) (v_cbF cv_lst ls_lst (va_cons (v_cb cv_tup (va_cons (v_var 5) (va_cons (v_var 6) (va_cons (v_op ov_add (v_var 7) (v_cbF cv_lst ls_lst (va_cons (v_var 10) va_nil)).e) va_nil)))) va_nil)).e) (va_cons (v_var 2) va_nil))) (v_var 1)))) (vs_append 7 (v_var 10)) vs_next))))))
      (vs_seq (vs_if (vt_not (vt_of (v_var 7))) (vs_append 7 (v_cb cv_tup (va_cons (v_c fun _ _ => mStr') (va_cons (v_cb cv_tup (va_cons (v_c fun _ _ => mStr') va_nil)) (va_cons (v_c fun _ _ => mBl') va_nil))))) vs_next)
      (vs_seq (vs_asg (.nm 11) (v_op ov_add (v_cb cv_sum (va_cons (v_lc (.nm 12) [12] (wv_seq (v_var 4)) vt_tr (v_cb cv_len (va_cons (v_op ov_ix (v_var 12) (v_c fun _ _ => mInt')) va_nil))).e va_nil)) (v_cb cv_len (va_cons (v_var 7) va_nil))))
      (vs_if (vt_or (vt_not (vt_of (v_var 4))) (vt_and (vt_bl (v_op ov_le (v_var 11) (v_c fun _ _ => mInt'))) (vt_bl (v_op ov_le (v_lend 7 (v_call O__law_many (va_cons (v_op ov_add (v_var 4) (v_cbF cv_lst ls_lst (va_cons (v_cb cv_tup (va_cons (v_var 5) (va_cons (v_var 6) (va_cons (v_var 7) va_nil)))) va_nil)).e) (va_cons (v_var 2) va_nil)))) (v_var 1))))) (vs_append 4 (v_cb cv_tup (va_cons (v_var 5) (va_cons (v_var 6) (va_cons (v_cb cv_tuple (va_cons (v_var 7) va_nil)) va_nil))))) vs_next)))))))
      (vs_ret (v_cb cv_tuple (va_cons (v_var 4) va_nil)))))
noncomputable def V__law_tables : MirV := runV 4 13 (b__law_tables V__law_words V__law_draw V__law_many V__law_textual)
theorem vok__law_tables {t s : Nat} : VOk t s [] F__law_tables V__law_tables := vok_body (vb__law_tables vok__law_words vok__law_draw vok__law_many vok__law_textual)
noncomputable def b__law_value_words_2 : PE → Tau → AnsV :=
    (vIfS (vBl (vOp pNe (vOp pIx (vVar 3) (vC (.int 1))) (vC (.str (Str.ofString "text"))))) (vSeq (vAsg (.nm 4) (vOp pAdd (vSl (vOp pIx (vVar 3) (vC (.int 1))) none (some (vC (.int 3)))) (vSl (vOp pIx (vVar 3) (vC (.int 1))) (some (vOp pSub (vCB qLen (vCons (vOp pIx (vVar 3) (vC (.int 1))) vNil)) (vC (.int 1)))) none)))
    (vAsg (.nm 1) (vOp pAdd (vVar 1) (vLc (wvSeq (vVar 4)) (.nm 5) (vBl (vOp pNotIn (vVar 5) (vVar 1))) (vVar 5) [5])))) vNext)
noncomputable def b__law_value_words_1 : PE → Tau → AnsV :=
    (vFor (wvSeqC (vOp pIx (vVar 2) (vC (.int 2)))) (.nm 3) (b__law_value_words_2))
noncomputable def b__law_value_words : PE → Tau → AnsV :=
    (vSeq (vAsg (.nm 1) (vCB qLst (vCons (vC (.str (Str.ofString "stranger"))) vNil)))
    (vSeq (vFor (wvSeqC (vVar 0)) (.nm 2) (b__law_value_words_1))
    (vRet (vVar 1))))
theorem vb__law_value_words {t s : Nat} : SimS t s [] (m__law_value_words) (b__law_value_words) :=
      (vs_seq (vs_asg (.nm 1) (v_cbF cv_lst ls_lst (va_cons (v_c fun _ _ => mStr') va_nil)).e)
      (vs_seq (vs_for (.nm 2) (wv_seqC (v_var 0)) (vs_for (.nm 3) (wv_seqC (v_op ov_ix (v_var 2) (v_c fun _ _ => mInt'))) (vs_if (vt_bl (v_op ov_ne (v_op ov_ix (v_var 3) (v_c fun _ _ => mInt')) (v_c fun _ _ => mStr'))) (vs_seq (vs_asg (.nm 4) (v_op ov_add (v_sl (v_op ov_ix (v_var 3) (v_c fun _ _ => mInt')) vo_none (vo_some (v_c fun _ _ => mInt'))) (v_sl (v_op ov_ix (v_var 3) (v_c fun _ _ => mInt')) (vo_some (v_op ov_sub (v_cb cv_len (va_cons (v_op ov_ix (v_var 3) (v_c fun _ _ => mInt')) va_nil)) (v_c fun _ _ => mInt'))) vo_none)))
      (vs_asg (.nm 1) (v_op ov_add (v_var 1) (v_lc (.nm 5) [5] (wv_seq (v_var 4)) (vt_bl (v_op ov_notin (v_var 5) (v_var 1))) (v_var 5)).e))) vs_next)))
      (vs_ret (v_var 1))))
noncomputable def V__law_value_words : MirV := runV 1 6 (b__law_value_words)
theorem vok__law_value_words {t s : Nat} : VOk t s [] F__law_value_words V__law_value_words := vok_body (vb__law_value_words)
noncomputable def b__law_operand_1 (g__law_draw : MirV) : PE → Tau → AnsV :=
    (vAsg (.nm 5) (vOp pAdd (vVar 5) (vLc (wvSeq (vOp pIx (vVar 6) (vC (.int 2)))) (.nm 9) (vBl (vOp pEq (vOp pEq (vOp pIx (vVar 9) (vC (.int 1))) (vC (.str (Str.ofString "text")))) (vVar 4))) (vCB qTup (vCons (vOp pIx (vVar 6) (vC (.int 0))) (vCons (vOp pIx (vVar 9) (vC (.int 0))) vNil))) [9])))
noncomputable def b__law_operand (g__law_draw : MirV) : PE → Tau → AnsV :=
    (vSeq (vAsg (.nm 5) (vCB qLst vNil))
    (vSeq (vFor (wvSeqC (vVar 1)) (.nm 6) (b__law_operand_1 g__law_draw))
    (vSeq (vAsg (.nm 7) (vCall g__law_draw (vCons (vVar 0) (vCons (vC (.int 6)) vNil))))
    (vSeq (vIfS (vAnd (vBl (vOp pGt (vVar 7) (vC (.int 1)))) (vTru (vVar 5))) (vSeq (vAsg (.nm 8) (vOp pIx (vVar 5) (vCall g__law_draw (vCons (vVar 0) (vCons (vCB qLen (vCons (vVar 5) vNil)) vNil)))))
    (vRet (vCB qTup (vCons (vC (.str (Str.ofString "column"))) (vCons (vOp pIx (vVar 8) (vC (.int 0))) (vCons (vOp pIx (vVar 8) (vC (.int 1))) vNil)))))) vNext)
    (vSeq (vIfS (vAnd (vBl (vOp pGt (vVar 7) (vC (.int 0)))) (vAnd (vTru (vVar 4)) (vTru (vVar 2)))) (vRet (vCB qTup (vCons (vC (.str (Str.ofString "cell"))) (vCons (vOp pIx (vVar 2) (vCall g__law_draw (vCons (vVar 0) (vCons (vCB qLen (vCons (vVar 2) vNil)) vNil)))) vNil)))) vNext)
    (vSeq (vIfS (vAnd (vBl (vOp pGt (vVar 7) (vC (.int 0)))) (vAnd (vTru (vVar 3)) (vNot (vTru (vVar 4))))) (vRet (vCB qTup (vCons (vC (.str (Str.ofString "cell"))) (vCons (vCB qTup (vCons (vOp pIx (vVar 3) (vCall g__law_draw (vCons (vVar 0) (vCons (vCB qLen (vCons (vVar 3) vNil)) vNil)))) vNil)) vNil)))) vNext)
    (vRet (vCB qTup (vCons (vC (.str (Str.ofString "cell"))) (vCons (vC .non) vNil))))))))))
theorem vb__law_operand {t s : Nat} {f__law_draw : Mir} {g__law_draw : MirV} (O__law_draw : VOk t s [] f__law_draw g__law_draw) : SimS t s [] (m__law_operand f__law_draw) (b__law_operand g__law_draw) :=
      (vs_seq (vs_asg (.nm 5) (v_cbF cv_lst ls_lst va_nil).e)
      (vs_seq (vs_for (.nm 6) (wv_seqC (v_var 1)) (vs_asg (.nm 5) (v_op ov_add (v_var 5) (v_lc (.nm 9) [9] (wv_seq (v_op ov_ix (v_var 6) (v_c fun _ _ => mInt'))) (vt_bl (v_op ov_eq (v_op ov_eq (v_op ov_ix (v_var 9) (v_c fun _ _ => mInt')) (v_c fun _ _ => mStr')) (v_var 4))) (v_cb cv_tup (va_cons (v_op ov_ix (v_var 6) (v_c fun _ _ => mInt')) (va_cons (v_op ov_ix (v_var 9) (v_c fun _ _ => mInt')) va_nil)))).e)))
      (vs_seq (vs_asg (.nm 7) (v_call O__law_draw (va_cons (v_var 0) (va_cons (v_c fun _ _ => mInt') va_nil))))
      (vs_seq (vs_if (vt_and (vt_bl (v_op ov_gt (v_var 7) (v_c fun _ _ => mInt'))) (vt_of (v_var 5))) (vs_seq (vs_asg (.nm 8) (v_op ov_ix (v_var 5) (v_call O__law_draw (va_cons (v_var 0) (va_cons (v_cb cv_len (va_cons (v_var 5) va_nil)) va_nil)))))
      (vs_ret (v_cb cv_tup (va_cons (v_c fun _ _ => mStr') (va_cons (v_op ov_ix (v_var 8) (v_c fun _ _ => mInt')) (va_cons (v_op ov_ix (v_var 8) (v_c fun _ _ => mInt')) va_nil)))))) vs_next)
      (vs_seq (vs_if (vt_and (vt_bl (v_op ov_gt (v_var 7) (v_c fun _ _ => mInt'))) (vt_and (vt_of (v_var 4)) (vt_of (v_var 2)))) (vs_ret (v_cb cv_tup (va_cons (v_c fun _ _ => mStr') (va_cons (v_op ov_ix (v_var 2) (v_call O__law_draw (va_cons (v_var 0) (va_cons (v_cb cv_len (va_cons (v_var 2) va_nil)) va_nil)))) va_nil)))) vs_next)
      (vs_seq (vs_if (vt_and (vt_bl (v_op ov_gt (v_var 7) (v_c fun _ _ => mInt'))) (vt_and (vt_of (v_var 3)) (vt_not (vt_of (v_var 4))))) (vs_ret (v_cb cv_tup (va_cons (v_c fun _ _ => mStr') (va_cons (v_cb cv_tup (va_cons (v_op ov_ix (v_var 3) (v_call O__law_draw (va_cons (v_var 0) (va_cons (v_cb cv_len (va_cons (v_var 3) va_nil)) va_nil)))) va_nil)) va_nil)))) vs_next)
      (vs_ret (v_cb cv_tup (va_cons (v_c fun _ _ => mStr') (va_cons (v_c fun _ _ => mNon') va_nil))))))))))
noncomputable def V__law_operand : MirV := runV 5 10 (b__law_operand V__law_draw)
theorem vok__law_operand {t s : Nat} : VOk t s [] F__law_operand V__law_operand := vok_body (vb__law_operand vok__law_draw)
noncomputable def b__law_condition_1 (g__law_operand : MirV) (g__law_draw : MirV) (g__law_textual : MirV) (g__law_condition : MirV) : PE → Tau → AnsV :=
    (vAppend 6 (vCall g__law_condition (vCons (vVar 0) (vCons (vVar 1) (vCons (vVar 2) (vCons (vVar 3) (vCons (vOp pSub (vVar 4) (vC (.int 1))) vNil)))))))
noncomputable def b__law_condition (g__law_operand : MirV) (g__law_draw : MirV) (g__law_textual : MirV) (g__law_condition : MirV) : PE → Tau → AnsV :=
    (vSeq (vAsg (.nm 5) (vCall g__law_draw (vCons (vVar 0) (vCons (vC (.int 10)) vNil))))
    (vSeq (vIfS (vAnd (vBl (vOp pGt (vVar 4) (vC (.int 0)))) (vBl (vOp pEq (vVar 5) (vC (.int 0))))) (vRet (vCB qTup (vCons (vC (.str (Str.ofString "not"))) (vCons (vCall g__law_condition (vCons (vVar 0) (vCons (vVar 1) (vCons (vVar 2) (vCons (vVar 3) (vCons (vOp pSub (vVar 4) (vC (.int 1))) vNil)))))) vNil)))) vNext)
    (vSeq (vIfS (vAnd (vBl (vOp pGt (vVar 4) (vC (.int 0)))) (vBl (vOp pLt (vVar 5) (vC (.int 4))))) (vSeq (vAsgO 6 (vCB qLst vNil))
    (vSeq (vAsg (.nm 7) (vOp pIx (vCB qLst (vCons (vC (.int 2)) (vCons (vC (.int 2)) (vCons (vC (.int 2)) (vCons (vC (.int 3)) (vCons (vC (.int 2)) (vCons (vC (.int 6)) vNil))))))) (vCall g__law_draw (vCons (vVar 0) (vCons (vOp pIx (vCB qLst (vCons (vC (.int 4)) (vCons (vC (.int 6)) vNil))) (vCB qInt (vCons (vOp pEq (vVar 4) (vC (.int 1))) vNil))) vNil)))))
    (vSeq (vFor (wvRange (vCons (vVar 7) vNil)) (.nm 8) (b__law_condition_1 g__law_operand g__law_draw g__law_textual g__law_condition))
    (vRet (vCB qTup (vCons (vOp pIx (vCB qLst (vCons (vC (.str (Str.ofString "and"))) (vCons (vC (.str (Str.ofString "or"))) vNil))) (vOp pMod (vCB qInt (vCons (vVar 5) vNil)) (vC (.int 2)))) (vCons (vCB qTuple (vCons (vVar 6) vNil)) vNil))))))) vNext)
    (vSeq (vIfS (vBl (vOp pEq (vVar 5) (vC (.int 4)))) (vRet (vOp pIx (vCB qLst (vCons (vCB qTup (vCons (vC (.str (Str.ofString "true"))) vNil)) (vCons (vCB qTup (vCons (vC (.str (Str.ofString "false"))) vNil)) (vCons (vCB qTup (vCons (vC (.str (Str.ofString "exists"))) (vCons (vOp pIx (vOp pIx (vVar 1) (vCall g__law_draw (vCons (vVar 0) (vCons (vCB qLen (vCons (vVar 1) vNil)) vNil)))) (vC (.int 0))) vNil))) vNil)))) (vCall g__law_draw (vCons (vVar 0) (vCons (vC (.int 3)) vNil))))) vNext)
    (vSeq (vAsg (.nm 9) (vOp pGt (vCall g__law_draw (vCons (vVar 0) (vCons (vC (.int 3)) vNil))) (vC (.int 0))))
    (vSeq (vIfS (vNot (vTru (vCall g__law_textual (vCons (vVar 1) vNil)))) (vAsg (.nm 9) (vC (.bl false))) vNext)
    (vSeq (vAsg (.nm 10) (vCall g__law_operand (vCons (vVar 0) (vCons (vVar 1) (vCons (vVar 2) (vCons (vVar 3) (vCons (vVar 9) vNil)))))))
    (vRet (vCB qTup (vCons (vOp pIx (vCB qLst (vCons (vC (.str (Str.ofString "="))) (vCons (vC (.str (Str.ofString "!="))) vNil))) (vCall g__law_draw (vCons (vVar 0) (vCons (vC (.int 2)) vNil)))) (vCons (vVar 10) (vCons (vCall g__law_operand (vCons (vVar 0) (vCons (vVar 1) (vCons (vVar 2) (vCons (vVar 3) (vCons (vVar 9) vNil)))))) vNil))))))))))))
theorem vb__law_condition {t s : Nat} {f__law_operand : Mir} {g__law_operand : MirV} (O__law_operand : VOk t s [] f__law_operand g__law_operand) {f__law_draw : Mir} {g__law_draw : MirV} (O__law_draw : VOk t s [] f__law_draw g__law_draw) {f__law_textual : Mir} {g__law_textual : MirV} (O__law_textual : VOk t s [] f__law_textual g__law_textual) {f__law_condition : Mir} {g__law_condition : MirV} (O__law_condition : VOk t s [] f__law_condition g__law_condition) : SimS t s [] (m__law_condition f__law_operand f__law_draw f__law_textual f__law_condition) (b__law_condition g__law_operand g__law_draw g__law_textual g__law_condition) :=
      (vs_seq (vs_asg (.nm 5) (v_call O__law_draw (va_cons (v_var 0) (va_cons (v_c fun _ _ => mInt') va_nil))))
      (vs_seq (vs_if (vt_and (vt_bl (v_op ov_gt (v_var 4) (v_c fun _ _ => mInt'))) (vt_bl (v_op ov_eq (v_var 5) (v_c fun _ _ => mInt')))) (vs_ret (v_cb cv_tup (va_cons (v_c fun _ _ => mStr') (va_cons (v_call O__law_condition (va_cons (v_var 0) (va_cons (v_var 1) (va_cons (v_var 2) (va_cons (v_var 3) (va_cons (v_op ov_sub (v_var 4) (v_c fun _ _ => mInt')) va_nil)))))) va_nil)))) vs_next)
      (vs_seq (vs_if (vt_and (vt_bl (v_op ov_gt (v_var 4) (v_c fun _ _ => mInt'))) (vt_bl (v_op ov_lt (v_var 5) (v_c fun _ _ => mInt')))) (vs_seq (vs_asgO 6 (v_cbF cv_lst ls_lst va_nil))
      (vs_seq (vs_asg (.nm 7) (v_op ov_ix (v_cbF cv_lst ls_lst (va_cons (v_c fun _ _ => mInt') (va_cons (v_c fun _ _ => mInt') (va_cons (v_c fun _ _ => mInt') (va_cons (v_c fun _ _ => mInt') (va_cons (v_c fun _ _ => mInt') (va_cons (v_c fun _ _ => mInt') va_nil))))))).e (v_call O__law_draw (va_cons (v_var 0) (va_cons (v_op ov_ix (v_cbF cv_lst ls_lst (va_cons (v_c fun _ _ => mInt') (va_cons (v_c fun _ _ => mInt') va_nil))).e (v_cb cv_int (va_cons (v_op ov_eq (v_var 4) (v_c fun _ _ => mInt')) va_nil))) va_nil)))))
      (vs_seq (vs_for (.nm 8) (wv_range (va_cons (v_var 7) va_nil)) (vs_append 6 (v_call O__law_condition (va_cons (v_var 0) (va_cons (v_var 1) (va_cons (v_var 2) (va_cons (v_var 3) (va_cons (v_op ov_sub (v_var 4) (v_c fun _ _ => mInt')) va_nil))))))))
      (vs_ret (v_cb cv_tup (va_cons (v_op ov_ix (v_cbF cv_lst ls_lst (va_cons (v_c fun _ _ => mStr') (va_cons (v_c fun _ _ => mStr') va_nil))).e (v_op ov_mod (v_cb cv_int (va_cons (v_var 5) va_nil)) (v_c fun _ _ => mInt'))) (va_cons (v_cb cv_tuple (va_cons (v_var 6) va_nil)) va_nil))))))) vs_next)
      (vs_seq (vs_if (vt_bl (v_op ov_eq (v_var 5) (v_c fun _ _ => mInt'))) (vs_ret (v_op ov_ix (v_cbF cv_lst ls_lst (va_cons (v_cb cv_tup (va_cons (v_c fun _ _ => mStr') va_nil)) (va_cons (v_cb cv_tup (va_cons (v_c fun _ _ => mStr') va_nil)) (va_cons (v_cb cv_tup (va_cons (v_c fun _ _ => mStr') (va_cons (v_op ov_ix (v_op ov_ix (v_var 1) (v_call O__law_draw (va_cons (v_var 0) (va_cons (v_cb cv_len (va_cons (v_var 1) va_nil)) va_nil)))) (v_c fun _ _ => mInt')) va_nil))) va_nil)))).e (v_call O__law_draw (va_cons (v_var 0) (va_cons (v_c fun _ _ => mInt') va_nil))))) vs_next)
      (vs_seq (vs_asg (.nm 9) (v_op ov_gt (v_call O__law_draw (va_cons (v_var 0) (va_cons (v_c fun _ _ => mInt') va_nil))) (v_c fun _ _ => mInt')))
      (vs_seq (vs_if (vt_not (vt_of (v_call O__law_textual (va_cons (v_var 1) va_nil)))) (vs_asg (.nm 9) (v_c fun _ _ => mBl')) vs_next)
      (vs_seq (vs_asg (.nm 10) (v_call O__law_operand (va_cons (v_var 0) (va_cons (v_var 1) (va_cons (v_var 2) (va_cons (v_var 3) (va_cons (v_var 9) va_nil)))))))
      (vs_ret (v_cb cv_tup (va_cons (v_op ov_ix (v_cbF cv_lst ls_lst (va_cons (v_c fun _ _ => mStr') (va_cons (v_c fun _ _ => mStr') va_nil))).e (v_call O__law_draw (va_cons (v_var 0) (va_cons (v_c fun _ _ => mInt') va_nil)))) (va_cons (v_var 10) (va_cons (v_call O__law_operand (va_cons (v_var 0) (va_cons (v_var 1) (va_cons (v_var 2) (va_cons (v_var 3) (va_cons (v_var 9) va_nil)))))) va_nil))))))))))))
noncomputable def Vn__law_condition : Nat → MirV
  | 0 => fun _ _ => none
  | n + 1 => runV 5 11 (b__law_condition V__law_operand V__law_draw V__law_textual (Vn__law_condition n))
noncomputable abbrev V__law_condition : MirV := Vn__law_condition 40
theorem vokn__law_condition {t s : Nat} : ∀ n, VOk t s [] (Fn__law_condition n) (Vn__law_condition n)
  | 0 => vok_none
  | n + 1 => vok_body (vb__law_condition vok__law_operand vok__law_draw vok__law_textual (vokn__law_condition n))
theorem vok__law_condition {t s : Nat} : VOk t s [] F__law_condition V__law_condition := vokn__law_condition 40
noncomputable def b__law_shape_2 (g__law_draw : MirV) : PE → Tau → AnsV :=
    (vSeq (vAsg (.nm 7) (vOp pAdd (vCB qList (vCons (vVar 2) vNil)) (vCB qLst (vCons (vC .non) vNil))))
    (vSeq (vIfS (vBl (vOp pNe (vOp pIx (vVar 6) (vC (.int 1))) (vC (.str (Str.ofString "text"))))) (vAsg (.nm 7) (vOp pAdd (vLc (wvSeq (vOp pIx (vVar 6) (vC (.int 1)))) (.nm 8) vTrue (vCB qTup (vCons (vVar 8) vNil)) [8]) (vCB qLst (vCons (vCB qTup (vCons (vC (.str (Str.ofString "unknown_value"))) vNil)) (vCons (vC .non) vNil))))) vNext)
    (vAppend 5 (vOp pIx (vVar 7) (vCall g__law_draw (vCons (vVar 0) (vCons (vCB qLen (vCons (vVar 7) vNil)) vNil)))))))
noncomputable def b__law_shape_1 (g__law_draw : MirV) : PE → Tau → AnsV :=
    (vSeq (vAsgO 5 (vCB qLst vNil))
    (vSeq (vFor (wvSeqC (vOp pIx (vVar 4) (vC (.int 2)))) (.nm 6) (b__law_shape_2 g__law_draw))
    (vIfS (vBl (vOp pEq (vCall g__law_draw (vCons (vVar 0) (vCons (vC (.int 4)) vNil))) (vC (.int 0)))) (vAppend 3 (vC .non)) (vAppend 3 (vCB qTuple (vCons (vVar 5) vNil))))))
noncomputable def b__law_shape (g__law_draw : MirV) : PE → Tau → AnsV :=
    (vSeq (vAsgO 3 (vCB qLst vNil))
    (vSeq (vFor (wvSeqC (vVar 1)) (.nm 4) (b__law_shape_1 g__law_draw))
    (vRet (vCB qTuple (vCons (vVar 3) vNil)))))
theorem vb__law_shape {t s : Nat} {f__law_draw : Mir} {g__law_draw : MirV} (O__law_draw : VOk t s [] f__law_draw g__law_draw) : SimS t s [] (m__law_shape f__law_draw) (b__law_shape g__law_draw) :=
      (vs_seq (vs_asgO 3 (v_cbF cv_lst ls_lst va_nil))
      (vs_seq (vs_for (.nm 4) (wv_seqC (v_var 1)) (vs_seq (vs_asgO 5 (v_cbF cv_lst ls_lst va_nil))
      (vs_seq (vs_for (.nm 6) (wv_seqC (v_op ov_ix (v_var 4) (v_c fun _ _ => mInt'))) (vs_seq (vs_asg (.nm 7) (v_op ov_add (v_cbF cv_list ls_list (va_cons (v_var 2) va_nil)).e (v_cbF cv_lst ls_lst (va_cons (v_c fun _ _ => mNon') va_nil)).e))
      (vs_seq (vs_if (vt_bl (v_op ov_ne (v_op ov_ix (v_var 6) (v_c fun _ _ => mInt')) (v_c fun _ _ => mStr'))) (vs_asg (.nm 7) (v_op ov_add (v_lc (.nm 8) [8] (wv_seq (v_op ov_ix (v_var 6) (v_c fun _ _ => mInt'))) vt_tr (v_cb cv_tup (va_cons (v_var 8) va_nil))).e (v_cbF cv_lst ls_lst (va_cons (v_cb cv_tup (va_cons (v_c fun _ _ => mStr') va_nil)) (va_cons (v_c fun _ _ => mNon') va_nil))).e)) vs_next)
      (vs_append 5 (v_op ov_ix (v_var 7) (v_call O__law_draw (va_cons (v_var 0) (va_cons (v_cb cv_len (va_cons (v_var 7) va_nil)) va_nil))))))))
      (vs_if (vt_bl (v_op ov_eq (v_call O__law_draw (va_cons (v_var 0) (va_cons (v_c fun _ _ => mInt') va_nil))) (v_c fun _ _ => mInt'))) (vs_append 3 (v_c fun _ _ => mNon')) (vs_append 3 (v_cb cv_tuple (va_cons (v_var 5) va_nil)))))))
      (vs_ret (v_cb cv_tuple (va_cons (v_var 3) va_nil)))))
noncomputable def V__law_shape : MirV := runV 3 9 (b__law_shape V__law_draw)
theorem vok__law_shape {t s : Nat} : VOk t s [] F__law_shape V__law_shape := vok_body (vb__law_shape vok__law_draw)
noncomputable def b__law_cell_2 : PE → Tau → AnsV :=
    (vIfS (vBl (vOp pEq (vOp pIx (vOp pIx (vOp pIx (vOp pIx (vVar 0) (vVar 3)) (vC (.int 2))) (vVar 4)) (vC (.int 0))) (vOp pIx (vVar 1) (vC (.int 2))))) (vRet (vOp pIx (vOp pIx (vVar 2) (vVar 3)) (vVar 4))) vNext)
noncomputable def b__law_cell_1 : PE → Tau → AnsV :=
    (vIfS (vAnd (vBl (vOp pEq (vOp pIx (vOp pIx (vVar 0) (vVar 3)) (vC (.int 0))) (vOp pIx (vVar 1) (vC (.int 1))))) (vBl (vOp pIsNot (vOp pIx (vVar 2) (vVar 3)) (vC .non)))) (vFor (wvRange (vCons (vCB qLen (vCons (vOp pIx (vOp pIx (vVar 0) (vVar 3)) (vC (.int 2))) vNil)) vNil)) (.nm 4) (b__law_cell_2)) vNext)
noncomputable def b__law_cell : PE → Tau → AnsV :=
    (vSeq (vIfS (vBl (vOp pEq (vOp pIx (vVar 1) (vC (.int 0))) (vC (.str (Str.ofString "cell"))))) (vRet (vOp pIx (vVar 1) (vC (.int 1)))) vNext)
    (vSeq (vFor (wvRange (vCons (vCB qLen (vCons (vVar 0) vNil)) vNil)) (.nm 3) (b__law_cell_1))
    (vRet (vC .non))))
theorem vb__law_cell {t s : Nat} : SimS t s [] (m__law_cell) (b__law_cell) :=
      (vs_seq (vs_if (vt_bl (v_op ov_eq (v_op ov_ix (v_var 1) (v_c fun _ _ => mInt')) (v_c fun _ _ => mStr'))) (vs_ret (v_op ov_ix (v_var 1) (v_c fun _ _ => mInt'))) vs_next)
      (vs_seq (vs_for (.nm 3) (wv_range (va_cons (v_cb cv_len (va_cons (v_var 0) va_nil)) va_nil)) (vs_if (vt_and (vt_bl (v_op ov_eq (v_op ov_ix (v_op ov_ix (v_var 0) (v_var 3)) (v_c fun _ _ => mInt')) (v_op ov_ix (v_var 1) (v_c fun _ _ => mInt')))) (vt_bl (v_op ov_isnot (v_op ov_ix (v_var 2) (v_var 3)) (v_c fun _ _ => mNon')))) (vs_for (.nm 4) (wv_range (va_cons (v_cb cv_len (va_cons (v_op ov_ix (v_op ov_ix (v_var 0) (v_var 3)) (v_c fun _ _ => mInt')) va_nil)) va_nil)) (vs_if (vt_bl (v_op ov_eq (v_op ov_ix (v_op ov_ix (v_op ov_ix (v_op ov_ix (v_var 0) (v_var 3)) (v_c fun _ _ => mInt')) (v_var 4)) (v_c fun _ _ => mInt')) (v_op ov_ix (v_var 1) (v_c fun _ _ => mInt')))) (vs_ret (v_op ov_ix (v_op ov_ix (v_var 2) (v_var 3)) (v_var 4))) vs_next)) vs_next))
      (vs_ret (v_c fun _ _ => mNon'))))
noncomputable def V__law_cell : MirV := runV 3 5 (b__law_cell)
theorem vok__law_cell {t s : Nat} : VOk t s [] F__law_cell V__law_cell := vok_body (vb__law_cell)
noncomputable def b__law_holds_1 (g__law_holds : MirV) (g__law_cell : MirV) : PE → Tau → AnsV :=
    (vIfS (vBl (vOp pNe (vCall g__law_holds (vCons (vVar 0) (vCons (vVar 5) (vCons (vVar 2) vNil)))) (vOp pEq (vOp pIx (vVar 1) (vC (.int 0))) (vC (.str (Str.ofString "and")))))) (vRet (vOp pEq (vOp pIx (vVar 1) (vC (.int 0))) (vC (.str (Str.ofString "or"))))) vNext)
noncomputable def b__law_holds_2 (g__law_holds : MirV) (g__law_cell : MirV) : PE → Tau → AnsV :=
    (vIfS (vBl (vOp pEq (vOp pIx (vOp pIx (vVar 0) (vVar 3)) (vC (.int 0))) (vOp pIx (vVar 1) (vC (.int 1))))) (vRet (vOp pIsNot (vOp pIx (vVar 2) (vVar 3)) (vC .non))) vNext)
noncomputable def b__law_holds (g__law_holds : MirV) (g__law_cell : MirV) : PE → Tau → AnsV :=
    (vSeq (vIfS (vOr (vBl (vOp pEq (vOp pIx (vVar 1) (vC (.int 0))) (vC (.str (Str.ofString "true"))))) (vBl (vOp pEq (vOp pIx (vVar 1) (vC (.int 0))) (vC (.str (Str.ofString "false")))))) (vRet (vOp pEq (vOp pIx (vVar 1) (vC (.int 0))) (vC (.str (Str.ofString "true"))))) vNext)
    (vSeq (vIfS (vBl (vOp pEq (vOp pIx (vVar 1) (vC (.int 0))) (vC (.str (Str.ofString "exists"))))) (vSeq (vFor (wvRange (vCons (vCB qLen (vCons (vVar 0) vNil)) vNil)) (.nm 3) (b__law_holds_2 g__law_holds g__law_cell))
    (vRet (vC (.bl false)))) vNext)
    (vSeq (vIfS (vOr (vBl (vOp pEq (vOp pIx (vVar 1) (vC (.int 0))) (vC (.str (Str.ofString "="))))) (vBl (vOp pEq (vOp pIx (vVar 1) (vC (.int 0))) (vC (.str (Str.ofString "!=")))))) (vSeq (vAsg (.nm 4) (vOp pEq (vCall g__law_cell (vCons (vVar 0) (vCons (vOp pIx (vVar 1) (vC (.int 1))) (vCons (vVar 2) vNil)))) (vCall g__law_cell (vCons (vVar 0) (vCons (vOp pIx (vVar 1) (vC (.int 2))) (vCons (vVar 2) vNil))))))
    (vRet (vOp pEq (vVar 4) (vOp pEq (vOp pIx (vVar 1) (vC (.int 0))) (vC (.str (Str.ofString "="))))))) vNext)
    (vSeq (vIfS (vBl (vOp pEq (vOp pIx (vVar 1) (vC (.int 0))) (vC (.str (Str.ofString "not"))))) (vRet (vNotV (vCall g__law_holds (vCons (vVar 0) (vCons (vOp pIx (vVar 1) (vC (.int 1))) (vCons (vVar 2) vNil)))))) vNext)
    (vSeq (vFor (wvSeqC (vOp pIx (vVar 1) (vC (.int 1)))) (.nm 5) (b__law_holds_1 g__law_holds g__law_cell))
    (vRet (vOp pEq (vOp pIx (vVar 1) (vC (.int 0))) (vC (.str (Str.ofString "and"))))))))))
theorem vb__law_holds {t s : Nat} {f__law_holds : Mir} {g__law_holds : MirV} (O__law_holds : VOk t s [] f__law_holds g__law_holds) {f__law_cell : Mir} {g__law_cell : MirV} (O__law_cell : VOk t s [] f__law_cell g__law_cell) : SimS t s [] (m__law_holds f__law_holds f__law_cell) (b__law_holds g__law_holds g__law_cell) :=
      (vs_seq (vs_if (vt_or (vt_bl (v_op ov_eq (v_op ov_ix (v_var 1) (v_c fun _ _ => mInt')) (v_c fun _ _ => mStr'))) (vt_bl (v_op ov_eq (v_op ov_ix (v_var 1) (v_c fun _ _ => mInt')) (v_c fun _ _ => mStr')))) (vs_ret (v_op ov_eq (v_op ov_ix (v_var 1) (v_c fun _ _ => mInt')) (v_c fun _ _ => mStr'))) vs_next)
      (vs_seq (vs_if (vt_bl (v_op ov_eq (v_op ov_ix (v_var 1) (v_c fun _ _ => mInt')) (v_c fun _ _ => mStr'))) (vs_seq (vs_for (.nm 3) (wv_range (va_cons (v_cb cv_len (va_cons (v_var 0) va_nil)) va_nil)) (vs_if (vt_bl (v_op ov_eq (v_op ov_ix (v_op ov_ix (v_var 0) (v_var 3)) (v_c fun _ _ => mInt')) (v_op ov_ix (v_var 1) (v_c fun _ _ => mInt')))) (vs_ret (v_op ov_isnot (v_op ov_ix (v_var 2) (v_var 3)) (v_c fun _ _ => mNon'))) vs_next))
      (vs_ret (v_c fun _ _ => mBl'))) vs_next)
      (vs_seq (vs_if (vt_or (vt_bl (v_op ov_eq (v_op ov_ix (v_var 1) (v_c fun _ _ => mInt')) (v_c fun _ _ => mStr'))) (vt_bl (v_op ov_eq (v_op ov_ix (v_var 1) (v_c fun _ _ => mInt')) (v_c fun _ _ => mStr')))) (vs_seq (vs_asg (.nm 4) (v_op ov_eq (v_call O__law_cell (va_cons (v_var 0) (va_cons (v_op ov_ix (v_var 1) (v_c fun _ _ => mInt')) (va_cons (v_var 2) va_nil)))) (v_call O__law_cell (va_cons (v_var 0) (va_cons (v_op ov_ix (v_var 1) (v_c fun _ _ => mInt')) (va_cons (v_var 2) va_nil))))))
      (vs_ret (v_op ov_eq (v_var 4) (v_op ov_eq (v_op ov_ix (v_var 1) (v_c fun _ _ => mInt')) (v_c fun _ _ => mStr'))))) vs_next)
      (vs_seq (vs_if (vt_bl (v_op ov_eq (v_op ov_ix (v_var 1) (v_c fun _ _ => mInt')) (v_c fun _ _ => mStr'))) (vs_ret (v_not (v_call O__law_holds (va_cons (v_var 0) (va_cons (v_op ov_ix (v_var 1) (v_c fun _ _ => mInt')) (va_cons (v_var 2) va_nil)))))) vs_next)
      (vs_seq (vs_for (.nm 5) (wv_seqC (v_op ov_ix (v_var 1) (v_c fun _ _ => mInt'))) (vs_if (vt_bl (v_op ov_ne (v_call O__law_holds (va_cons (v_var 0) (va_cons (v_var 5) (va_cons (v_var 2) va_nil)))) (v_op ov_eq (v_op ov_ix (v_var 1) (v_c fun _ _ => mInt')) (v_c fun _ _ => mStr')))) (vs_ret (v_op ov_eq (v_op ov_ix (v_var 1) (v_c fun _ _ => mInt')) (v_c fun _ _ => mStr'))) vs_next))
      (vs_ret (v_op ov_eq (v_op ov_ix (v_var 1) (v_c fun _ _ => mInt')) (v_c fun _ _ => mStr'))))))))
noncomputable def Vn__law_holds : Nat → MirV
  | 0 => fun _ _ => none
  | n + 1 => runV 3 6 (b__law_holds (Vn__law_holds n) V__law_cell)
noncomputable abbrev V__law_holds : MirV := Vn__law_holds 40
theorem vokn__law_holds {t s : Nat} : ∀ n, VOk t s [] (Fn__law_holds n) (Vn__law_holds n)
  | 0 => vok_none
  | n + 1 => vok_body (vb__law_holds (vokn__law_holds n) vok__law_cell)
theorem vok__law_holds {t s : Nat} : VOk t s [] F__law_holds V__law_holds := vokn__law_holds 40
noncomputable def b__law_deepened_1 (g__law_draw : MirV) : PE → Tau → AnsV :=
    (vSeq (vAsg (.nm 4) (vCall g__law_draw (vCons (vVar 0) (vCons (vC (.int 3)) vNil))))
    (vSeq (vIfS (vBl (vOp pEq (vVar 4) (vC (.int 0)))) (vAsg (.nm 1) (vCB qTup (vCons (vC (.str (Str.ofString "not"))) (vCons (vVar 1) vNil)))) vNext)
    (vSeq (vIfS (vBl (vOp pEq (vVar 4) (vC (.int 1)))) (vAsg (.nm 1) (vCB qTup (vCons (vC (.str (Str.ofString "and"))) (vCons (vCB qTup (vCons (vCB qTup (vCons (vC (.str (Str.ofString "true"))) vNil)) (vCons (vVar 1) vNil))) vNil)))) vNext)
    (vIfS (vBl (vOp pEq (vVar 4) (vC (.int 2)))) (vAsg (.nm 1) (vCB qTup (vCons (vC (.str (Str.ofString "or"))) (vCons (vCB qTup (vCons (vVar 1) (vCons (vCB qTup (vCons (vC (.str (Str.ofString "false"))) vNil)) vNil))) vNil)))) vNext))))
noncomputable def b__law_deepened (g__law_draw : MirV) : PE → Tau → AnsV :=
    (vSeq (vFor (wvRange (vCons (vVar 2) vNil)) (.nm 3) (b__law_deepened_1 g__law_draw))
    (vRet (vVar 1)))
theorem vb__law_deepened {t s : Nat} {f__law_draw : Mir} {g__law_draw : MirV} (O__law_draw : VOk t s [] f__law_draw g__law_draw) : SimS t s [] (m__law_deepened f__law_draw) (b__law_deepened g__law_draw) :=
      (vs_seq (vs_for (.nm 3) (wv_range (va_cons (v_var 2) va_nil)) (vs_seq (vs_asg (.nm 4) (v_call O__law_draw (va_cons (v_var 0) (va_cons (v_c fun _ _ => mInt') va_nil))))
      (vs_seq (vs_if (vt_bl (v_op ov_eq (v_var 4) (v_c fun _ _ => mInt'))) (vs_asg (.nm 1) (v_cb cv_tup (va_cons (v_c fun _ _ => mStr') (va_cons (v_var 1) va_nil)))) vs_next)
      (vs_seq (vs_if (vt_bl (v_op ov_eq (v_var 4) (v_c fun _ _ => mInt'))) (vs_asg (.nm 1) (v_cb cv_tup (va_cons (v_c fun _ _ => mStr') (va_cons (v_cb cv_tup (va_cons (v_cb cv_tup (va_cons (v_c fun _ _ => mStr') va_nil)) (va_cons (v_var 1) va_nil))) va_nil)))) vs_next)
      (vs_if (vt_bl (v_op ov_eq (v_var 4) (v_c fun _ _ => mInt'))) (vs_asg (.nm 1) (v_cb cv_tup (va_cons (v_c fun _ _ => mStr') (va_cons (v_cb cv_tup (va_cons (v_var 1) (va_cons (v_cb cv_tup (va_cons (v_c fun _ _ => mStr') va_nil)) va_nil))) va_nil)))) vs_next)))))
      (vs_ret (v_var 1)))
noncomputable def V__law_deepened : MirV := runV 3 5 (b__law_deepened V__law_draw)
theorem vok__law_deepened {t s : Nat} : VOk t s [] F__law_deepened V__law_deepened := vok_body (vb__law_deepened vok__law_draw)
noncomputable def b__law_large_2 (g__law_draw : MirV) (g__law_words : MirV) : PE → Tau → AnsV :=
    (vSeq (vAsg (.nm 9) (vCall g__law_draw (vCons (vVar 0) (vCons (vC (.int 4)) vNil))))
    (vSeq (vAsg (.nm 10) (vC (.str (Str.ofString "text"))))
    (vSeq (vIfS (vBl (vOp pEq (vVar 9) (vC (.int 0)))) (vAsg (.nm 10) (vCB qTuple (vCons (vLc (wvRange (vCons (vOp pIx (vCB qLst (vCons (vC (.int 1)) (vCons (vC (.int 2)) (vCons (vC (.int 7)) (vCons (vVar 1) vNil))))) (vCall g__law_draw (vCons (vVar 0) (vCons (vC (.int 4)) vNil)))) vNil)) (.nm 11) vTrue (vOp pAdd (vC (.str (Str.ofString "w"))) (vCB qStr (vCons (vVar 11) vNil))) [11]) vNil))) vNext)
    (vSeq (vIfS (vBl (vOp pEq (vVar 9) (vC (.int 1)))) (vAsg (.nm 10) (vCB qTuple (vCons (vCall g__law_words (vCons (vVar 0) (vCons (vOp pAdd (vC (.int 1)) (vCall g__law_draw (vCons (vVar 0) (vCons (vC (.int 3)) vNil)))) (vCons (vCB qLst vNil) vNil)))) vNil))) vNext)
    (vAppend 7 (vCB qTup (vCons (vVar 8) (vCons (vVar 10) (vCons (vOp pEq (vCall g__law_draw (vCons (vVar 0) (vCons (vC (.int 2)) vNil))) (vC (.int 0))) vNil)))))))))
noncomputable def b__law_large_1 (g__law_draw : MirV) (g__law_words : MirV) : PE → Tau → AnsV :=
    (vSeq (vAsg (.nm 6) (vCB qMin2 (vCons (vOp pAdd (vC (.int 1)) (vCall g__law_draw (vCons (vVar 0) (vCons (vC (.int 4)) vNil)))) (vCons (vOp pSub (vVar 3) (vOp pSub (vOp pSub (vCB qLen (vCons (vVar 2) vNil)) (vC (.int 1))) (vVar 5))) vNil))))
    (vSeq (vAsgO 7 (vCB qLst vNil))
    (vSeq (vFor (wvSeqC (vCall g__law_words (vCons (vVar 0) (vCons (vVar 6) (vCons (vCB qLst vNil) vNil))))) (.nm 8) (b__law_large_2 g__law_draw g__law_words))
    (vSeq (vAsg (.nm 3) (vOp pSub (vVar 3) (vVar 6)))
    (vAppend 4 (vCB qTup (vCons (vOp pIx (vVar 2) (vVar 5)) (vCons (vOp pEq (vCall g__law_draw (vCons (vVar 0) (vCons (vC (.int 2)) vNil))) (vC (.int 0))) (vCons (vCB qTuple (vCons (vVar 7) vNil)) vNil)))))))))
noncomputable def b__law_large (g__law_draw : MirV) (g__law_words : MirV) : PE → Tau → AnsV :=
    (vSeq (vAsg (.nm 2) (vCall g__law_words (vCons (vVar 0) (vCons (vOp pAdd (vC (.int 1)) (vCall g__law_draw (vCons (vVar 0) (vCons (vC (.int 8)) vNil)))) (vCons (vCB qLst vNil) vNil)))))
    (vSeq (vAsg (.nm 3) (vC (.int 20)))
    (vSeq (vAsgO 4 (vCB qLst vNil))
    (vSeq (vFor (wvRange (vCons (vCB qLen (vCons (vVar 2) vNil)) vNil)) (.nm 5) (b__law_large_1 g__law_draw g__law_words))
    (vRet (vCB qTuple (vCons (vVar 4) vNil)))))))
theorem vb__law_large {t s : Nat} {f__law_draw : Mir} {g__law_draw : MirV} (O__law_draw : VOk t s [] f__law_draw g__law_draw) {f__law_words : Mir} {g__law_words : MirV} (O__law_words : VOk t s [] f__law_words g__law_words) : SimS t s [] (m__law_large f__law_draw f__law_words) (b__law_large g__law_draw g__law_words) :=
      (vs_seq (vs_asg (.nm 2) (v_call O__law_words (va_cons (v_var 0) (va_cons (v_op ov_add (v_c fun _ _ => mInt') (v_call O__law_draw (va_cons (v_var 0) (va_cons (v_c fun _ _ => mInt') va_nil)))) (va_cons (v_cbF cv_lst ls_lst va_nil).e va_nil)))))
      (vs_seq (vs_asg (.nm 3) (v_c fun _ _ => mInt'))
      (vs_seq (vs_asgO 4 (v_cbF cv_lst ls_lst va_nil))
      (vs_seq (vs_for (.nm 5) (wv_range (va_cons (v_cb cv_len (va_cons (v_var 2) va_nil)) va_nil)) (vs_seq (vs_asg (.nm 6) (v_cb cv_min2 (va_cons (v_op ov_add (v_c fun _ _ => mInt') (v_call O__law_draw (va_cons (v_var 0) (va_cons (v_c fun _ _ => mInt') va_nil)))) (va_cons (v_op ov_sub (v_var 3) (v_op ov_sub (v_op ov_sub (v_cb cv_len (va_cons (v_var 2) va_nil)) (v_c fun _ _ => mInt')) (v_var 5))) va_nil))))
      (vs_seq (vs_asgO 7 (v_cbF cv_lst ls_lst va_nil))
      (vs_seq (vs_for (.nm 8) (wv_seqC (v_call O__law_words (va_cons (v_var 0) (va_cons (v_var 6) (va_cons (v_cbF cv_lst ls_lst va_nil).e va_nil))))) (vs_seq (vs_asg (.nm 9) (v_call O__law_draw (va_cons (v_var 0) (va_cons (v_c fun _ _ => mInt') va_nil))))
      (vs_seq (vs_asg (.nm 10) (v_c fun _ _ => mStr'))
      (vs_seq (vs_if (vt_bl (v_op ov_eq (v_var 9) (v_c fun _ _ => mInt'))) (vs_asg (.nm 10) (v_cb cv_tuple (va_cons (v_lc (.nm 11) [11] (wv_range (va_cons (v_op ov_ix (v_cbF cv_lst ls_lst (va_cons (v_c fun _ _ => mInt') (va_cons (v_c fun _ _ => mInt') (va_cons (v_c fun _ _ => mInt') (va_cons (v_var 1) va_nil))))).e (v_call O__law_draw (va_cons (v_var 0) (va_cons (v_c fun _ _ => mInt') va_nil)))) va_nil)).w vt_tr (v_op ov_add (v_c fun _ _ => mStr') (v_cb cv_str (va_cons (v_var 11) va_nil)))).e va_nil))) vs_next)
      (vs_seq (vs_if (vt_bl (v_op ov_eq (v_var 9) (v_c fun _ _ => mInt'))) (vs_asg (.nm 10) (v_cb cv_tuple (va_cons (v_call O__law_words (va_cons (v_var 0) (va_cons (v_op ov_add (v_c fun _ _ => mInt') (v_call O__law_draw (va_cons (v_var 0) (va_cons (v_c fun _ _ => mInt') va_nil)))) (va_cons (v_cbF cv_lst ls_lst va_nil).e va_nil)))) va_nil))) vs_next)
      (vs_append 7 (v_cb cv_tup (va_cons (v_var 8) (va_cons (v_var 10) (va_cons (v_op ov_eq (v_call O__law_draw (va_cons (v_var 0) (va_cons (v_c fun _ _ => mInt') va_nil))) (v_c fun _ _ => mInt')) va_nil))))))))))
      (vs_seq (vs_asg (.nm 3) (v_op ov_sub (v_var 3) (v_var 6)))
      (vs_append 4 (v_cb cv_tup (va_cons (v_op ov_ix (v_var 2) (v_var 5)) (va_cons (v_op ov_eq (v_call O__law_draw (va_cons (v_var 0) (va_cons (v_c fun _ _ => mInt') va_nil))) (v_c fun _ _ => mInt')) (va_cons (v_cb cv_tuple (va_cons (v_var 7) va_nil)) va_nil))))))))))
      (vs_ret (v_cb cv_tuple (va_cons (v_var 4) va_nil)))))))
noncomputable def V__law_large : MirV := runV 2 12 (b__law_large V__law_draw V__law_words)
theorem vok__law_large {t s : Nat} : VOk t s [] F__law_large V__law_large := vok_body (vb__law_large vok__law_draw vok__law_words)
noncomputable def b__law_any_tables (g__law_tables : MirV) (g__law_draw : MirV) (g__law_large : MirV) : PE → Tau → AnsV :=
    (vSeq (vIfS (vBl (vOp pEq (vCall g__law_draw (vCons (vVar 0) (vCons (vC (.int 8)) vNil))) (vC (.int 0)))) (vRet (vCall g__law_large (vCons (vVar 0) (vCons (vVar 1) vNil)))) vNext)
    (vRet (vCall g__law_tables (vCons (vVar 0) (vCons (vOp pPow (vC (.int 10)) (vC (.int 9))) (vCons (vC (.int 3)) (vCons (vC (.int 6)) vNil)))))))
theorem vb__law_any_tables {t s : Nat} {f__law_tables : Mir} {g__law_tables : MirV} (O__law_tables : VOk t s [] f__law_tables g__law_tables) {f__law_draw : Mir} {g__law_draw : MirV} (O__law_draw : VOk t s [] f__law_draw g__law_draw) {f__law_large : Mir} {g__law_large : MirV} (O__law_large : VOk t s [] f__law_large g__law_large) : SimS t s [] (m__law_any_tables f__law_tables f__law_draw f__law_large) (b__law_any_tables g__law_tables g__law_draw g__law_large) :=
      (vs_seq (vs_if (vt_bl (v_op ov_eq (v_call O__law_draw (va_cons (v_var 0) (va_cons (v_c fun _ _ => mInt') va_nil))) (v_c fun _ _ => mInt'))) (vs_ret (v_call O__law_large (va_cons (v_var 0) (va_cons (v_var 1) va_nil)))) vs_next)
      (vs_ret (v_call O__law_tables (va_cons (v_var 0) (va_cons (v_op ov_pow (v_c fun _ _ => mInt') (v_c fun _ _ => mInt')) (va_cons (v_c fun _ _ => mInt') (va_cons (v_c fun _ _ => mInt') va_nil)))))))
noncomputable def V__law_any_tables : MirV := runV 2 2 (b__law_any_tables V__law_tables V__law_draw V__law_large)
theorem vok__law_any_tables {t s : Nat} : VOk t s [] F__law_any_tables V__law_any_tables := vok_body (vb__law_any_tables vok__law_tables vok__law_draw vok__law_large)
noncomputable def b_law (g_holds : MirV) (g__law_holds : MirV) (g__law_shape : MirV) (g__law_texts : MirV) (g__law_draw : MirV) (g__law_deepened : MirV) (g__law_condition : MirV) (g__law_value_words : MirV) (g__law_any_tables : MirV) : PE → Tau → AnsV :=
    (vSeq (vAsg (.nm 2) (vCall g__law_texts (vCons (vVar 1) (vCons (vCall g__law_draw (vCons (vVar 1) (vCons (vC (.int 4)) vNil))) (vCons (vCB qLst vNil) vNil)))))
    (vSeq (vAsg (.nm 3) (vCall g__law_any_tables (vCons (vVar 1) (vCons (vC (.int 7)) vNil))))
    (vSeq (vAsg (.nm 4) (vCall g__law_condition (vCons (vVar 1) (vCons (vVar 3) (vCons (vVar 2) (vCons (vCall g__law_value_words (vCons (vVar 3) vNil)) (vCons (vOp pIx (vCB qLst (vCons (vC (.int 0)) (vCons (vC (.int 1)) (vCons (vC (.int 2)) (vCons (vC (.int 3)) vNil))))) (vCall g__law_draw (vCons (vVar 1) (vCons (vC (.int 4)) vNil)))) vNil)))))))
    (vSeq (vIfS (vBl (vOp pEq (vCall g__law_draw (vCons (vVar 1) (vCons (vC (.int 8)) vNil))) (vC (.int 0)))) (vAsg (.nm 4) (vCall g__law_deepened (vCons (vVar 1) (vCons (vVar 4) (vCons (vC (.int 6)) vNil))))) vNext)
    (vSeq (vAsg (.nm 5) (vOp pAdd (vVar 2) (vCall g__law_texts (vCons (vVar 1) (vCons (vC (.int 2)) (vCons (vVar 2) vNil))))))
    (vSeq (vAsg (.nm 6) (vCall g__law_shape (vCons (vVar 1) (vCons (vVar 3) (vCons (vVar 5) vNil)))))
    (vSeq (vAsg (.nm 7) (vCall g__law_holds (vCons (vVar 3) (vCons (vVar 4) (vCons (vVar 6) vNil)))))
    (vSeq (vAsg (.nm 8) (vCall g_holds (vCons (vVar 3) (vCons (vVar 4) (vCons (vVar 6) vNil)))))
    (vSeq (vIfS (vOr (vNot (vTru (vIsi "bool" (vVar 8)))) (vBl (vOp pNe (vVar 8) (vVar 7)))) (vRet (vC (.bl false))) vNext)
    (vSeq (vAsg (.nm 9) (vCall g_holds (vCons (vVar 3) (vCons (vCB qTup (vCons (vC (.str (Str.ofString "not"))) (vCons (vVar 4) vNil))) (vCons (vVar 6) vNil)))))
    (vRet (vAndV (vIsi "bool" (vVar 9)) (vAndV (vOp pNe (vVar 9) (vVar 7)) (vOp pEq (vCall g_holds (vCons (vVar 3) (vCons (vVar 4) (vCons (vVar 6) vNil)))) (vVar 7)))))))))))))))
theorem vb_law {t s : Nat} {f_holds : Mir} {g_holds : MirV} (O_holds : VOk t s [] f_holds g_holds) {f__law_holds : Mir} {g__law_holds : MirV} (O__law_holds : VOk t s [] f__law_holds g__law_holds) {f__law_shape : Mir} {g__law_shape : MirV} (O__law_shape : VOk t s [] f__law_shape g__law_shape) {f__law_texts : Mir} {g__law_texts : MirV} (O__law_texts : VOk t s [] f__law_texts g__law_texts) {f__law_draw : Mir} {g__law_draw : MirV} (O__law_draw : VOk t s [] f__law_draw g__law_draw) {f__law_deepened : Mir} {g__law_deepened : MirV} (O__law_deepened : VOk t s [] f__law_deepened g__law_deepened) {f__law_condition : Mir} {g__law_condition : MirV} (O__law_condition : VOk t s [] f__law_condition g__law_condition) {f__law_value_words : Mir} {g__law_value_words : MirV} (O__law_value_words : VOk t s [] f__law_value_words g__law_value_words) {f__law_any_tables : Mir} {g__law_any_tables : MirV} (O__law_any_tables : VOk t s [] f__law_any_tables g__law_any_tables) : ∃ R, m_law f_holds f__law_holds f__law_shape f__law_texts f__law_draw f__law_deepened f__law_condition f__law_value_words f__law_any_tables F__law_tape = sSeq (sAsg (.nm 1) (dCall F__law_tape (dCons (dVar 0) dNil))) R ∧ SimS t s [] R (b_law g_holds g__law_holds g__law_shape g__law_texts g__law_draw g__law_deepened g__law_condition g__law_value_words g__law_any_tables) := ⟨_, rfl,
      (vs_seq (vs_asg (.nm 2) (v_call O__law_texts (va_cons (v_var 1) (va_cons (v_call O__law_draw (va_cons (v_var 1) (va_cons (v_c fun _ _ => mInt') va_nil))) (va_cons (v_cbF cv_lst ls_lst va_nil).e va_nil)))))
      (vs_seq (vs_asg (.nm 3) (v_call O__law_any_tables (va_cons (v_var 1) (va_cons (v_c fun _ _ => mInt') va_nil))))
      (vs_seq (vs_asg (.nm 4) (v_call O__law_condition (va_cons (v_var 1) (va_cons (v_var 3) (va_cons (v_var 2) (va_cons (v_call O__law_value_words (va_cons (v_var 3) va_nil)) (va_cons (v_op ov_ix (v_cbF cv_lst ls_lst (va_cons (v_c fun _ _ => mInt') (va_cons (v_c fun _ _ => mInt') (va_cons (v_c fun _ _ => mInt') (va_cons (v_c fun _ _ => mInt') va_nil))))).e (v_call O__law_draw (va_cons (v_var 1) (va_cons (v_c fun _ _ => mInt') va_nil)))) va_nil)))))))
      (vs_seq (vs_if (vt_bl (v_op ov_eq (v_call O__law_draw (va_cons (v_var 1) (va_cons (v_c fun _ _ => mInt') va_nil))) (v_c fun _ _ => mInt'))) (vs_asg (.nm 4) (v_call O__law_deepened (va_cons (v_var 1) (va_cons (v_var 4) (va_cons (v_c fun _ _ => mInt') va_nil))))) vs_next)
      (vs_seq (vs_asg (.nm 5) (v_op ov_add (v_var 2) (v_call O__law_texts (va_cons (v_var 1) (va_cons (v_c fun _ _ => mInt') (va_cons (v_var 2) va_nil))))))
      (vs_seq (vs_asg (.nm 6) (v_call O__law_shape (va_cons (v_var 1) (va_cons (v_var 3) (va_cons (v_var 5) va_nil)))))
      (vs_seq (vs_asg (.nm 7) (v_call O__law_holds (va_cons (v_var 3) (va_cons (v_var 4) (va_cons (v_var 6) va_nil)))))
      (vs_seq (vs_asg (.nm 8) (v_call O_holds (va_cons (v_var 3) (va_cons (v_var 4) (va_cons (v_var 6) va_nil)))))
      (vs_seq (vs_if (vt_or (vt_not (vt_of (v_isi "bool" (v_var 8)))) (vt_bl (v_op ov_ne (v_var 8) (v_var 7)))) (vs_ret (v_c fun _ _ => mBl')) vs_next)
      (vs_seq (vs_asg (.nm 9) (v_call O_holds (va_cons (v_var 3) (va_cons (v_cb cv_tup (va_cons (v_c fun _ _ => mStr') (va_cons (v_var 4) va_nil))) (va_cons (v_var 6) va_nil)))))
      (vs_ret (v_and (v_isi "bool" (v_var 9)) (v_and (v_op ov_ne (v_var 9) (v_var 7)) (v_op ov_eq (v_call O_holds (va_cons (v_var 3) (va_cons (v_var 4) (va_cons (v_var 6) va_nil)))) (v_var 7)))))))))))))))⟩
noncomputable abbrev V_law : PE → Tau → AnsV := b_law V_holds V__law_holds V__law_shape V__law_texts V__law_draw V__law_deepened V__law_condition V__law_value_words V__law_any_tables
theorem law_of (h : ∀ τ, retT (V_law (([none] ++ List.replicate 9 none).set 1 (some .tape)) τ) = true) : ∀ ns : List Int, ns.length ≤ 63 → ∃ S', F_law [.ref 0] [.rol (ns.map D.int)] = some (.ok (.bl true), S') := by
  intro ns _
  obtain ⟨R, e1, hR⟩ := vb_law (t := 2) (s := 1) vok_holds vok__law_holds vok__law_shape vok__law_texts vok__law_draw vok__law_deepened vok__law_condition vok__law_value_words vok__law_any_tables
  exact law_end (i := 1) (n := 10) (by decide) e1 hR h ns
end LW
namespace LW
open PySem PySem.Spec PyProof.Rows L2 RT RZ DL VL
/-! ### texts -/
theorem get12 {α : Type} {l : List α} {i : Int} (h0 : 0 ≤ i) (h : i < l.length) : ∃ x, atI l i = some x ∧ x ∈ l := by
  refine ⟨l[i.toNat], atI_of (k := i.toNat) (by omega) (by rw [List.getElem?_eq_getElem]), List.getElem_mem _⟩
theorem at_of {α : Type} {f : α → P} {l : List α} {i : Int} {x : α} (h : atI l i = some x) : atI (l.map f) i = some (f x) := by
  unfold atI at h ⊢
  rw [List.length_map]
  cases e : ixN l.length i with
  | none => rw [e] at h; cases h
  | some k =>
    rw [e] at h
    simp only [Option.bind_some, List.getElem?_map] at h ⊢
    first
      | rw [h]; rfl
      | simp [h]
theorem pMul_str (x : Str) (n : Int) (h : MulOk x n) : pMul (.str x) (.int n) = some (.str (Txt.mul x n)) := if_pos h
theorem pIx_str {x : Str} {i : Int} {c : Nat} (hl : x.length ≤ sizeLine) (h : atI x.cps.toList i = some c) : pIx (.str x) (.int i) = some (.str ⟨#[c]⟩) := by
  unfold pIx
  simp only
  rw [if_pos hl, h]
theorem len_app (x y : Str) : (x ++ y).length = x.length + y.length := by
  rw [TL.len_tl, TL.tl_append, List.length_append, ← TL.len_tl, ← TL.len_tl]
theorem one_len (c : Nat) : (⟨#[c]⟩ : Str).length = 1 := rfl
def SOk (x : Str) : Prop := PyData.strOk x = true
theorem sok_of {x : Str} (h : ∀ c ∈ TL.tl x, c < 0x110000) : SOk x := by
  unfold SOk PyData.strOk
  rw [← Array.all_toList, List.all_eq_true]
  intro c hc
  simpa using h c hc
theorem sok_to {x : Str} (h : SOk x) : ∀ c ∈ TL.tl x, c < 0x110000 := by
  unfold SOk PyData.strOk at h
  rw [← Array.all_toList, List.all_eq_true] at h
  intro c hc
  simpa using h c hc
set_option maxHeartbeats 2000000 in
theorem text_v (τ : Tau) : ∃ (x : Str) (τ' : Tau), V__law_text [.tape] τ = some (.ok (.str x), τ') ∧ x.length ≤ 14 ∧ SOk x := by
  obtain ⟨v, τ1, d1, hv24⟩ := draw_lit τ 24
  by_cases hv : v < 12
  · obtain ⟨L, hL⟩ : ∃ L : List Str, L = [Str.ofString "", Str.ofString "v1", Str.ofString "v2", Str.ofString "v3", Str.ofString "c1", Str.ofString "c2", Str.ofString " ", Str.ofString "null", Str.ofString "v01", Str.ofString "V1", Str.ofString "v10", Str.ofString "x"] := ⟨_, rfl⟩
    have h12 : L.length = 12 := by rw [hL]; rfl
    obtain ⟨x, hx, hm⟩ := get12 (l := L) (i := (v : Int)) (by omega) (by omega)
    have hxl : x.length ≤ 14 := by
      have h : ∀ y ∈ L, y.length ≤ 14 := by
        rw [hL]
        decide +kernel
      exact h x hm
    have hxo : SOk x := by
      have h : ∀ y ∈ L, ∀ c ∈ TL.tl y, c < 128 := by
        rw [hL]
        decide +kernel
      exact sok_of fun c hc => Nat.lt_trans (h x hm c hc) (by decide)
    have hat := at_of (f := P.str) hx
    refine ⟨x, τ1, ?_, hxl, hxo⟩
    have hv' : (v : Int) < 12 := by omega
    rw [hL] at hat
    simp only [List.map_cons, List.map_nil] at hat
    simp [V__law_text, b__law_text, d1, hv', hat]
  · obtain ⟨n, τ2, d2, hn⟩ := draw_lit τ1 1245456
    obtain ⟨M, hM⟩ : ∃ M : Str, M = Str.ofString " !#$&'()*+,-./0123456789:;<=>?@ABCDEFGHIJKLMNOPQRSTUVWXYZ[\\]^_`abcdefghijklmnopqrstuvwxyz{|}~" := ⟨_, rfl⟩
    have hl : M.cps.toList.length = 93 := by rw [hM]; decide +kernel
    have hl2 : M.length ≤ sizeLine := by
      have : M.length = 93 := by rw [hM]; decide +kernel
      have := line_big
      omega
    obtain ⟨c1, h1, c1m⟩ := get12 (l := M.cps.toList) (i := ((n : Int) / 144) % 93) (by omega) (by omega)
    obtain ⟨c2, h2, c2m⟩ := get12 (l := M.cps.toList) (i := ((n : Int) / 13392) % 93) (by omega) (by omega)
    have g1 := pIx_str hl2 h1
    have g2 := pIx_str hl2 h2
    have mo : ∀ c ∈ TL.tl M, c < 128 := by rw [hM]; decide +kernel
    have k1 : c1 < 0x110000 := Nat.lt_trans (mo c1 c1m) (by decide)
    have k2 : c2 < 0x110000 := Nat.lt_trans (mo c2 c2m) (by decide)
    obtain ⟨len, hlen⟩ : ∃ len : Int, len = 1 + (n : Int) % 12 := ⟨_, rfl⟩
    have len0 : 0 < len := by omega
    obtain ⟨pl, hpl⟩ : ∃ pl, pl = ((n : Int) / 12) % len := ⟨_, rfl⟩
    have p0 : 0 ≤ pl := by rw [hpl]; exact Int.emod_nonneg _ (by omega)
    have p1 : pl < len := by rw [hpl]; exact Int.emod_lt_of_pos _ len0
    have m1 : MulOk ⟨#[c1]⟩ pl := mulOk_of 1 12 (Nat.le_refl _) (by omega) (by omega) (by decide) (by decide)
    have m2 : MulOk ⟨#[c1]⟩ (len - pl - 1) := mulOk_of 1 12 (Nat.le_refl _) (by omega) (by omega) (by decide) (by decide)
    have l1 : (Txt.mul ⟨#[c1]⟩ pl).length ≤ pl.toNat := len_mul_one (c := c1) rfl (by omega)
    have l2 : (Txt.mul ⟨#[c1]⟩ (len - pl - 1)).length ≤ (len - pl - 1).toNat := len_mul_one (c := c1) rfl (by omega)
    have e1 := pMul_str _ _ m1
    have e2 := pMul_str _ _ m2
    have lb := line_big
    have lc := one_len c2
    have s1 := pAdd_str (Txt.mul ⟨#[c1]⟩ pl) ⟨#[c2]⟩ (by omega)
    have s2 := pAdd_str (Txt.mul ⟨#[c1]⟩ pl ++ ⟨#[c2]⟩) (Txt.mul ⟨#[c1]⟩ (len - pl - 1)) (by rw [len_app]; omega)
    have f12 : pFdiv (.int n) (.int 12) = some (.int ((n : Int) / 12)) := pFdiv_int _ _ ⟨by decide, by decide⟩
    have f144 : pFdiv (.int n) (.int 144) = some (.int ((n : Int) / 144)) := pFdiv_int _ _ ⟨by decide, by decide⟩
    have f13 : pFdiv (.int n) (.int 13392) = some (.int ((n : Int) / 13392)) := pFdiv_int _ _ ⟨by decide, by decide⟩
    obtain ⟨Z, hZ⟩ : ∃ Z : Str, Z = Txt.mul ⟨#[c1]⟩ pl ++ ⟨#[c2]⟩ ++ Txt.mul ⟨#[c1]⟩ (len - pl - 1) := ⟨_, rfl⟩
    have lZ : Z.length ≤ 14 := by rw [hZ, len_app, len_app]; omega
    have so : SOk Z := by
      rw [hZ]
      refine sok_of fun c hc => ?_
      rw [TL.tl_append, TL.tl_append] at hc
      have e1 : ∀ n, TL.tl (Txt.mul ⟨#[c1]⟩ n) = List.replicate n.toNat c1 := fun n => mul_one_list c1 n
      rw [e1, e1] at hc
      rcases List.mem_append.mp hc with hc | hc
      · rcases List.mem_append.mp hc with hc | hc
        · rw [List.eq_of_mem_replicate hc]; exact k1
        · have : c = c2 := by simpa using hc
          rw [this]; exact k2
      · rw [List.eq_of_mem_replicate hc]; exact k1
    refine ⟨Z, τ2, ?_, lZ, so⟩
    have len1 : 0 < 1 + (n : Int) % 12 := by omega
    have hv' : ¬ (v : Int) < 12 := by omega
    simp only [V__law_text, b__law_text, ← hM]
    rw [hZ]
    clear hZ lZ
    clear so k1 k2
    generalize (⟨#[c1]⟩ : Str) = k1 at *
    generalize (⟨#[c2]⟩ : Str) = k2 at *
    rw [hpl, hlen] at e1 e2 s1 s2 ⊢
    simp [d1, hv', d2, f12, f144, f13, g1, g2, len1, e1, e2, s1, s2]
end LW
namespace LW
open PySem PySem.Spec PyProof.Rows L2 RT RZ DL VL
/-! ### numbers as texts -/
def num (k : Nat) : Str := Str.ofString (toString ((k : Nat) : Int))
theorem num_inj {j k : Nat} (h : num j = num k) : j = k := by
  have e := congrArg TL.tl h
  unfold num at e
  rw [TL.tl_num, TL.tl_num] at e
  exact TL.numL_inj e
theorem num_len {k : Nat} (hk : k < 10 ^ 9) : (num k).length ≤ 10 := by
  unfold num
  rw [PySem.ofString_length]
  exact int_text_length_le10 (k := 9) (by decide) (by simpa using hk)
theorem qStr_num {k : Nat} (hk : k < 10 ^ 9) : qStr [.int (k : Int)] = some (.str (num k)) := by
  refine if_pos ?_
  have h2 : k.log2 ≤ 1000 := by
    by_cases h : k = 0
    · subst h
      decide
    · have := (Nat.log2_lt h).mpr (Nat.lt_of_lt_of_le hk (show 10 ^ 9 ≤ 2 ^ 40 by decide))
      omega
  show (Int.natAbs (k : Int)).log2 < 1920
  rw [Int.natAbs_natCast]
  omega
/-! ### texts whose signs are signs -/
theorem sok_app {x y : Str} (hx : SOk x) (hy : SOk y) : SOk (x ++ y) := sok_of fun c hc => by
  rw [TL.tl_append] at hc
  rcases List.mem_append.mp hc with h | h
  · exact sok_to hx c h
  · exact sok_to hy c h
theorem sok_num (k : Nat) : SOk (num k) := sok_of fun c hc => by
  unfold num at hc
  rw [TL.tl_num] at hc
  have := TL.numL_digits k c hc
  omega
theorem sok_lit {x : Str} (h : PyData.strOk x = true := by decide +kernel) : SOk x := h
theorem pigeon {f : Nat → Str} (inj : ∀ i j, f i = f j → i = j) : ∀ (m : Nat) (F : List Str), F.length < m → ∃ j, j < m ∧ f j ∉ F
  | 0, _, h => absurd h (Nat.not_lt_zero _)
  | k + 1, F, h => by
    by_cases c : f k ∈ F
    · have hl := List.length_erase_of_mem c
      have hp : 0 < F.length := List.length_pos_of_mem c
      obtain ⟨j, hj, hn⟩ := pigeon inj k (F.erase (f k)) (by omega)
      refine ⟨j, by omega, fun q => hn ?_⟩
      exact (List.mem_erase_of_ne (fun e => by have := inj _ _ e; omega)).mpr q
    · exact ⟨k, by omega, c⟩
/-- a loop that ends behind all items or at a break -/
theorem forV_brk {tg : Tg} {fb : PE → Tau → AnsV} (Inv : Nat → PE → Tau → Prop) (Post : PE → Tau → Prop) (l : List P) (pe : PE) (τ : Tau) (hI : Inv 0 pe τ)
    (step : ∀ j x pe τ, l[j]? = some x → Inv j pe τ → ∃ pe1 pe2 τ2, putP tg x pe = some pe1 ∧ ((fb pe1 τ = some (.nx, pe2, τ2) ∧ Inv (j + 1) pe2 τ2) ∨ (fb pe1 τ = some (.bk, pe2, τ2) ∧ Post pe2 τ2))) :
    ∃ pe' τ', forV tg fb l pe τ = some (.nx, pe', τ') ∧ (Inv l.length pe' τ' ∨ Post pe' τ') := by
  rcases forV_rule (fb := fb) Inv Post (fun _ _ => False) l 0 pe τ hI (fun j x pe τ hx hj => by
    rw [Nat.zero_add] at hj ⊢
    obtain ⟨pe1, pe2, τ2, a, ⟨b, c⟩ | ⟨b, c⟩⟩ := step j x pe τ hx hj
    · exact ⟨pe1, a, .inl ⟨pe2, τ2, .inl b, c⟩⟩
    · exact ⟨pe1, a, .inr (.inl ⟨pe2, τ2, b, c⟩)⟩) with ⟨pe', τ', h1, h2⟩ | ⟨_, _, _, _, h⟩
  · rw [Nat.zero_add] at h2; exact ⟨pe', τ', h1, h2⟩
  · exact h.elim
/-- a comprehension with two fors whose parts change nothing -/
theorem lcV2_map {α β : Type} {tg tg1 : Tg} {gt gt1 : PE → Tau → AP Bool} {gw1 : PE → Tau → AP (List P)} {ge : PE → Tau → AP P} {vs1 : List Nat} {pe : PE} {τ : Tau} (enc : α → P) (enc1 : β → P) (inner : α → Option (List β)) (y : β → P) : ∀ (l : List α) (k : Nat)
    (step : ∀ x ∈ l, ∃ pe1, putP tg (enc x) pe = some pe1 ∧ gt pe1 τ = some (.ok (inner x).isSome, τ) ∧ ∀ bs, inner x = some bs → gw1 pe1 τ = some (.ok (bs.map enc1), τ) ∧ ∀ b ∈ bs, ∃ pe2, putP tg1 (enc1 b) (wipeV pe1 vs1) = some pe2 ∧ gt1 pe2 τ = some (.ok true, τ) ∧ ge pe2 τ = some (.ok (y b), τ) ∧ (y b).isOwn = false)
    (hz : k + (l.flatMap fun x => (inner x).getD []).length ≤ sizeLine), lcV2 tg gt gw1 tg1 gt1 ge vs1 pe (l.map enc) k τ = some ((l.flatMap fun x => (inner x).getD []).map y, τ)
  | [], k, _, _ => rfl
  | x :: l, k, step, hz => by
    obtain ⟨pe1, h1, h2, h3⟩ := step x List.mem_cons_self
    rw [List.flatMap_cons, List.length_append] at hz
    rw [List.map_cons]
    unfold lcV2
    rw [h1]
    simp only [h2]
    cases hi : inner x with
    | none =>
      rw [hi] at hz
      have ih := lcV2_map enc enc1 inner y l k (fun z hz => step z (List.mem_cons_of_mem _ hz)) (by simpa using hz)
      simp only [Option.isSome_none]
      rw [ih, List.flatMap_cons, hi]
      rfl
    | some bs =>
      rw [hi] at hz
      simp only [Option.getD_some] at hz
      obtain ⟨h4, h5⟩ := h3 bs hi
      simp only [Option.isSome_some, h4]
      have e1 := lcV_map (tg := tg1) (gt := gt1) (ge := ge) (pe := wipeV pe1 vs1) (τ := τ) enc1 bs (fun _ => true) y (fun b hb => by
        obtain ⟨pe2, a, b', c, d⟩ := h5 b hb
        exact ⟨pe2, a, b', fun _ => ⟨c, d⟩⟩)
      rw [List.filter_eq_self.mpr (fun _ _ => rfl)] at e1
      have ih := lcV2_map enc enc1 inner y l (k + (bs.map y).length) (fun z hz => step z (List.mem_cons_of_mem _ hz)) (by rw [List.length_map]; omega)
      rw [if_pos (by rw [List.length_map]; omega), e1]
      simp only [ih, List.flatMap_cons, hi, Option.getD_some, List.map_append]
/-! ### texts of a pool -/
def sT : Str := Str.ofString "t"
theorem sT_ok : SOk sT ∧ sT.length = 1 := ⟨sok_lit, by decide +kernel⟩
def candT (j : Nat) : Str := sT ++ num j
theorem candT_inj (i j : Nat) (h : candT i = candT j) : i = j := by
  have e := congrArg TL.tl h
  unfold candT at e
  rw [TL.tl_append, TL.tl_append sT (num j), List.append_cancel_left_eq] at e
  exact num_inj (TL.ext_tl e)
theorem candT_ok (j : Nat) (hj : j < 10 ^ 9) : SOk (candT j) ∧ (candT j).length ≤ 200 := by
  refine ⟨sok_app sT_ok.1 (sok_num j), ?_⟩
  unfold candT
  rw [len_app]
  have h2 := num_len hj
  have h3 := sT_ok.2
  omega
def curT (w : Str) : Nat → Str
  | 0 => w
  | j + 1 => candT j
/-- texts as wished: so many, different, none of those that are taken -/
structure WordsOk (tk L : List Str) (many : Nat) : Prop where
  len : L.length = many
  nd : L.Nodup
  tk : ∀ x ∈ L, x ∉ tk
  ok : ∀ x ∈ L, SOk x ∧ x.length ≤ 200
theorem WordsOk.snoc {tk L : List Str} {j : Nat} {v : Str} (W : WordsOk tk L j) (v1 : v ∉ L) (v2 : v ∉ tk) (v3 : SOk v) (v4 : v.length ≤ 200) : WordsOk tk (L ++ [v]) (j + 1) := by
  refine ⟨by simp [W.len], ?_, ?_, ?_⟩
  · rw [List.nodup_append]
    refine ⟨W.nd, by simp, fun a ha b hb => ?_⟩
    simp only [List.mem_singleton] at hb
    subst hb
    rintro rfl
    exact v1 ha
  · intro x hx
    rcases List.mem_append.mp hx with hx | hx
    · exact W.tk x hx
    · simp only [List.mem_singleton] at hx
      subst hx
      exact v2
  · intro x hx
    rcases List.mem_append.mp hx with hx | hx
    · exact W.ok x hx
    · simp only [List.mem_singleton] at hx
      subst hx
      exact ⟨v3, v4⟩
theorem WordsOk.nil {tk : List Str} : WordsOk tk [] 0 := ⟨rfl, List.nodup_nil, (fun x hx => by cases hx), (fun x hx => by cases hx)⟩
end LW
namespace LW
open PySem PySem.Spec PyProof.Rows L2 RT RZ DL VL
set_option maxHeartbeats 2000000 in
theorem freshT_v {L tk : List Str} {w : Str} {e0 e1 e4 e6 : Option P} {G : MirV} (τ : Tau) (hw : SOk w) (hwl : w.length ≤ 200) (h1 : L.length ≤ 10000) (h2 : tk.length ≤ 10000) :
    ∃ (v : Str) (u6 : Option P), forV (.nm 6) (b__law_texts_2 G) (rangeP 0 (L.length + tk.length + 3)) [e0, e1, some (.lst (tk.map P.str)), some (.own (L.map P.str)), e4, some (.str w), e6] τ = some (.nx, [e0, e1, some (.lst (tk.map P.str)), some (.own (L.map P.str)), e4, some (.str v), u6], τ) ∧ v ∉ L ∧ v ∉ tk ∧ SOk v ∧ v.length ≤ 200 := by
  obtain ⟨pe', τ', f1, f2⟩ := forV_brk (tg := .nm 6) (fb := b__law_texts_2 G)
    (fun j pe τ' => ∃ (u6 : Option P), pe = [e0, e1, some (.lst (tk.map P.str)), some (.own (L.map P.str)), e4, some (.str (curT w j)), u6] ∧ τ' = τ ∧ j ≤ 30000 ∧ ∀ i, i < j → curT w i ∈ L ∨ curT w i ∈ tk)
    (fun pe τ' => ∃ (v : Str) (u6 : Option P), pe = [e0, e1, some (.lst (tk.map P.str)), some (.own (L.map P.str)), e4, some (.str v), u6] ∧ τ' = τ ∧ v ∉ L ∧ v ∉ tk ∧ SOk v ∧ v.length ≤ 200)
    (rangeP 0 (L.length + tk.length + 3)) [e0, e1, some (.lst (tk.map P.str)), some (.own (L.map P.str)), e4, some (.str w), e6] τ ⟨e6, rfl, rfl, by omega, fun i hi => by omega⟩ (by
      rintro j x pe τ' hx ⟨u6, rfl, rfl, hj3, bad⟩
      obtain ⟨hj, rfl⟩ := rangeP_at hx
      have cv : SOk (curT w j) ∧ (curT w j).length ≤ 200 := by
        cases j with
        | zero => exact ⟨hw, hwl⟩
        | succ i => exact candT_ok i (by omega)
      have a1 : qStr [.int (j : Int)] = some (.str (num j)) := qStr_num (by omega)
      have a2 : pAdd (.str (Str.ofString "t")) (.str (num j)) = some (.str (candT j)) := pAdd_str sT (num j) (by have h4 := sT_ok.2; have h5 : (num j).length ≤ 10 := num_len (by omega); have := line_big; omega)
      have nx : (curT w j ∈ L ∨ curT w j ∈ tk) → b__law_texts_2 G [e0, e1, some (.lst (tk.map P.str)), some (.own (L.map P.str)), e4, some (.str (curT w j)), some (.int (j : Int))] τ' = some (.nx, [e0, e1, some (.lst (tk.map P.str)), some (.own (L.map P.str)), e4, some (.str (candT j)), some (.int (j : Int))], τ') := fun h => by
        by_cases g1 : curT w j ∈ L
        · simp [b__law_texts_2, g1, a1, a2]
        · have g2 := h.resolve_left g1
          simp [b__law_texts_2, g1, g2, a1, a2]
      by_cases g : curT w j ∈ L ∨ curT w j ∈ tk
      · refine ⟨_, _, τ', rfl, .inl ⟨nx g, some (.int (j : Int)), rfl, rfl, by omega, fun i hi => ?_⟩⟩
        by_cases e : i = j
        · rw [e]; exact g
        · exact bad i (by omega)
      · have g1 : curT w j ∉ L := fun h => g (.inl h)
        have g2 : curT w j ∉ tk := fun h => g (.inr h)
        refine ⟨_, _, τ', rfl, .inr ⟨?_, curT w j, some (.int (j : Int)), rfl, rfl, g1, g2, cv.1, cv.2⟩⟩
        simp [b__law_texts_2, g1, g2])
  rcases f2 with ⟨u6, -, -, -, bad⟩ | ⟨v, u6, rfl, rfl, v1, v2, v3, v4⟩
  · exfalso
    rw [rangeP_len] at bad
    obtain ⟨j, hj, hn⟩ := pigeon (f := candT) candT_inj (L.length + tk.length + 1) (L ++ tk) (by rw [List.length_append]; omega)
    rcases bad (j + 1) (by omega) with h | h
    · exact hn (List.mem_append_left _ h)
    · exact hn (List.mem_append_right _ h)
  · exact ⟨v, u6, f1, v1, v2, v3, v4⟩
set_option maxHeartbeats 2000000 in
theorem texts_v (τ : Tau) {tk : List Str} {many : Nat} (hm : many ≤ 500) (h2 : tk.length ≤ 1000) :
    ∃ (L : List Str) (τ' : Tau), V__law_texts [.tape, .int many, .lst (tk.map P.str)] τ = some (.ok (.lst (L.map P.str)), τ') ∧ WordsOk tk L many := by
  obtain ⟨pe', τ', h1, L, u4, u5, u6, rfl, W⟩ := forV_all (tg := .nm 4) (fb := b__law_texts_1 V__law_text)
    (fun j pe τ' => ∃ (L : List Str) (u4 u5 u6 : Option P), pe = [some .tape, some (.int many), some (.lst (tk.map P.str)), some (.own (L.map P.str)), u4, u5, u6] ∧ WordsOk tk L j)
    (rangeP 0 many) [some .tape, some (.int many), some (.lst (tk.map P.str)), some (.own []), none, none, none] τ ⟨[], _, _, _, rfl, .nil⟩ (by
      rintro j x pe τ hx ⟨L, u4, u5, u6, rfl, W⟩
      obtain ⟨hj, rfl⟩ := rangeP_at hx
      obtain ⟨w, τ1, d1, wl, wo⟩ := text_v τ
      obtain ⟨v, v6, f1, v1, v2, v3, v4⟩ := freshT_v (L := L) (tk := tk) (e0 := some .tape) (e1 := some (.int many)) (e4 := some (.int (j : Int))) (e6 := u6) (G := V__law_text) τ1 wo (by omega) (by rw [W.len]; omega) (by omega)
      have r := RgB.of (j := (L.length : Int) + tk.length + 3) (by have := W.len; omega)
      have e : ((L.length : Int) + tk.length + 3).toNat = L.length + tk.length + 3 := by omega
      have hz : L.length < sizeLine := by have := W.len; have := line_big; omega
      refine ⟨_, _, τ1, rfl, ?_, L ++ [v], some (.int (j : Int)), some (.str v), v6, rfl, W.snoc v1 v2 v3 v4⟩
      simp [b__law_texts_1, d1, r, e, f1, hz])
  rw [rangeP_len] at W
  have r : RgB (many : Int) := .of (by omega)
  exact ⟨L, τ', by simp [V__law_texts, b__law_texts, r, h1], W⟩
end LW
namespace LW
open PySem PySem.Spec PyProof.Rows L2 RT RZ DL VL
/-! ### words -/
def R16 : List Str := ["table", "optional", "text", "null", "check", "and", "or", "not", "exists", "true", "false", "if", "then", "else", "drop", "when"].map Str.ofString
def sA : Str := Str.ofString "abcdefghijklmnopqrstuvwxyz"
def sN : Str := Str.ofString "0123456789_"
def sC : Str := Str.ofString "customer_number_"
def sO : Str := Str.ofString "_of_the_customer_1"
def sQ : Str := Str.ofString "q"
theorem sA_ok : SOk sA ∧ sA.cps.toList.length = 26 ∧ sA.length = 26 := by unfold SOk; decide +kernel
theorem sN_ok : SOk sN ∧ sN.cps.toList.length = 11 ∧ sN.length = 11 := by unfold SOk; decide +kernel
theorem sC_ok : SOk sC ∧ sC.length = 16 := by unfold SOk; decide +kernel
theorem sO_ok : SOk sO ∧ sO.length = 18 := by unfold SOk; decide +kernel
theorem sQ_ok : SOk sQ ∧ sQ.length = 1 := by unfold SOk; decide +kernel
theorem R16_ok : (∀ x ∈ R16, SOk x ∧ x.length ≤ 10 ∧ ∀ c ∈ TL.tl x, 58 ≤ c) ∧ R16.length = 16 := by unfold SOk; decide +kernel
def sM : Str := sA ++ sN
theorem sM_ok : SOk sM ∧ sM.cps.toList.length = 37 ∧ sM.length = 37 := by unfold SOk; decide +kernel
theorem sok_cut {z : Str} (h : SOk z) (lo hi : Option Int) : SOk (cutS z lo hi) := sok_of fun c hc => by
  have : TL.tl (cutS z lo hi) = (z.cps.toList.drop (HT.sIx z.length 0 lo)).take (HT.sIx z.length z.length hi - HT.sIx z.length 0 lo) := rfl
  rw [this] at hc
  exact sok_to h c (List.mem_of_mem_drop (List.mem_of_mem_take hc))
theorem sok_one {x : Str} {c : Nat} (hx : SOk x) (h : c ∈ x.cps.toList) : SOk ⟨#[c]⟩ := sok_of fun d hd => by
  have : d = c := by simpa using hd
  subst this
  exact sok_to hx d h
theorem pSl_str {z : Str} (lo hi : Option Int) (h : z.length ≤ sizeLine) : pSl (.str z) lo hi = some (.str (cutS z lo hi)) := if_pos h
theorem pick {x : Str} {i : Int} (hx : SOk x) (h0 : 0 ≤ i) (h : i < x.cps.toList.length) (hl : x.length ≤ 1000) : ∃ y : Str, SOk y ∧ y.length = 1 ∧ pIx (.str x) (.int i) = some (.str y) := by
  obtain ⟨c, h1, h2⟩ := get12 (l := x.cps.toList) h0 h
  exact ⟨⟨#[c]⟩, sok_one hx h2, rfl, pIx_str (by have := line_big; omega) h1⟩
theorem reserved_v (τ : Tau) : V__law_reserved [] τ = some (.ok (.lst (R16.map P.str)), τ) := by
  have h : (16 : Nat) ≤ sizeLine := by decide
  simp [V__law_reserved, b__law_reserved, R16, h]
def cand (b : Str) (j : Nat) : Str := cutS b none (some 17) ++ sQ ++ num j
theorem cand_inj {b : Str} (i j : Nat) (h : cand b i = cand b j) : i = j := by
  have e := congrArg TL.tl h
  unfold cand at e
  rw [TL.tl_append, TL.tl_append (cutS b none (some 17) ++ sQ) (num j), List.append_cancel_left_eq] at e
  exact num_inj (TL.ext_tl e)
theorem cand_free (b : Str) (j : Nat) : cand b j ∉ R16 := fun h => by
  have h1 := (R16_ok.1 _ h).2.2
  obtain ⟨c, hc⟩ := List.exists_mem_of_ne_nil _ (TL.numL_ne j)
  have h2 := TL.numL_digits j c hc
  have h3 := h1 c (by
    unfold cand num
    rw [TL.tl_append, TL.tl_num]
    exact List.mem_append_right _ hc)
  omega
def cur (w b : Str) : Nat → Str
  | 0 => w
  | j + 1 => cand b j
theorem cut_len (z : Str) (lo hi : Option Int) : (cutS z lo hi).length ≤ z.length := cutS_length z lo hi
theorem cand_ok {b : Str} (hb : SOk b) (hl : b.length ≤ 100) (j : Nat) (hj : j < 10 ^ 9) : SOk (cand b j) ∧ (cand b j).length ≤ 200 := by
  refine ⟨sok_app (sok_app (sok_cut hb _ _) sQ_ok.1) (sok_num j), ?_⟩
  unfold cand
  rw [len_app, len_app]
  have h1 := cut_len b none (some 17)
  have h2 := num_len hj
  have h3 := sQ_ok.2
  omega
set_option maxHeartbeats 2000000 in
/-- the walk for a word that is free -/
theorem fresh_v {L tk : List Str} {w b : Str} {e0 e1 e3 e4 e5 e7 e8 e11 : Option P} {G : MirV} (τ : Tau) (hw : SOk w) (hwl : w.length ≤ 100) (hb : SOk b) (hbl : b.length ≤ 100) (h1 : L.length ≤ 10000) (h2 : tk.length ≤ 10000) :
    ∃ (v : Str) (u11 : Option P), forV (.nm 11) (b__law_words_2 V__law_reserved G) (rangeP 0 (L.length + tk.length + 2)) [e0, e1, some (.lst (tk.map P.str)), e3, e4, e5, some (.own (L.map P.str)), e7, e8, some (.str w), some (.str b), e11] τ = some (.nx, [e0, e1, some (.lst (tk.map P.str)), e3, e4, e5, some (.own (L.map P.str)), e7, e8, some (.str v), some (.str b), u11], τ) ∧ v ∉ L ∧ v ∉ tk ∧ v ∉ R16 ∧ SOk v ∧ v.length ≤ 200 := by
  obtain ⟨pe', τ', f1, f2⟩ := forV_brk (tg := .nm 11) (fb := b__law_words_2 V__law_reserved G)
    (fun j pe τ' => ∃ (u11 : Option P), pe = [e0, e1, some (.lst (tk.map P.str)), e3, e4, e5, some (.own (L.map P.str)), e7, e8, some (.str (cur w b j)), some (.str b), u11] ∧ τ' = τ ∧ j ≤ 30000 ∧ ∀ i, i < j → cur w b i ∈ L ∨ cur w b i ∈ tk ∨ cur w b i ∈ R16)
    (fun pe τ' => ∃ (v : Str) (u11 : Option P), pe = [e0, e1, some (.lst (tk.map P.str)), e3, e4, e5, some (.own (L.map P.str)), e7, e8, some (.str v), some (.str b), u11] ∧ τ' = τ ∧ v ∉ L ∧ v ∉ tk ∧ v ∉ R16 ∧ SOk v ∧ v.length ≤ 200)
    (rangeP 0 (L.length + tk.length + 2)) [e0, e1, some (.lst (tk.map P.str)), e3, e4, e5, some (.own (L.map P.str)), e7, e8, some (.str w), some (.str b), e11] τ ⟨e11, rfl, rfl, by omega, fun i hi => by omega⟩ (by
      rintro j x pe τ' hx ⟨u11, rfl, rfl, hj3, bad⟩
      obtain ⟨hj, rfl⟩ := rangeP_at hx
      have cv : SOk (cur w b j) ∧ (cur w b j).length ≤ 200 := by
        cases j with
        | zero => exact ⟨hw, by show w.length ≤ 200; omega⟩
        | succ i => exact cand_ok hb hbl i (by omega)
      have lb := line_big
      have h3 := cut_len b none (some 17)
      have h4 := sQ_ok.2
      have h5 : (num j).length ≤ 10 := num_len (by omega)
      have a1 := pSl_str (z := b) none (some 17) (by omega)
      have a2 : pAdd (.str (cutS b none (some 17))) (.str (Str.ofString "q")) = some (.str (cutS b none (some 17) ++ sQ)) := pAdd_str _ sQ (by omega)
      have a3 := qStr_num (k := j) (by omega)
      have a4 : pAdd (.str (cutS b none (some 17) ++ sQ)) (.str (num j)) = some (.str (cand b j)) := pAdd_str _ _ (by rw [len_app]; omega)
      have rs := reserved_v τ'
      have nx : (cur w b j ∈ L ∨ cur w b j ∈ tk ∨ cur w b j ∈ R16) → b__law_words_2 V__law_reserved G [e0, e1, some (.lst (tk.map P.str)), e3, e4, e5, some (.own (L.map P.str)), e7, e8, some (.str (cur w b j)), some (.str b), some (.int (j : Int))] τ' = some (.nx, [e0, e1, some (.lst (tk.map P.str)), e3, e4, e5, some (.own (L.map P.str)), e7, e8, some (.str (cand b j)), some (.str b), some (.int (j : Int))], τ') := fun h => by
        by_cases g1 : cur w b j ∈ L
        · simp [b__law_words_2, g1, a1, a2, a3, a4]
        · by_cases g2 : cur w b j ∈ tk
          · simp [b__law_words_2, g1, g2, a1, a2, a3, a4]
          · have g3 := (h.resolve_left g1).resolve_left g2
            simp [b__law_words_2, g1, g2, g3, rs, a1, a2, a3, a4]
      by_cases g : cur w b j ∈ L ∨ cur w b j ∈ tk ∨ cur w b j ∈ R16
      · refine ⟨_, _, τ', rfl, .inl ⟨nx g, some (.int (j : Int)), rfl, rfl, by omega, fun i hi => ?_⟩⟩
        by_cases e : i = j
        · rw [e]; exact g
        · exact bad i (by omega)
      · have g1 : cur w b j ∉ L := fun h => g (.inl h)
        have g2 : cur w b j ∉ tk := fun h => g (.inr (.inl h))
        have g3 : cur w b j ∉ R16 := fun h => g (.inr (.inr h))
        refine ⟨_, _, τ', rfl, .inr ⟨?_, cur w b j, some (.int (j : Int)), rfl, rfl, g1, g2, g3, cv.1, cv.2⟩⟩
        simp [b__law_words_2, g1, g2, g3, rs])
  rcases f2 with ⟨u11, -, -, -, bad⟩ | ⟨v, u11, rfl, rfl, v1, v2, v3, v4, v5⟩
  · exfalso
    rw [rangeP_len] at bad
    obtain ⟨j, hj, hn⟩ := pigeon (f := cand b) cand_inj (L.length + tk.length + 1) (L ++ tk) (by rw [List.length_append]; omega)
    rcases bad (j + 1) (by omega) with h | h | h
    · exact hn (List.mem_append_left _ h)
    · exact hn (List.mem_append_right _ h)
    · exact cand_free b j h
  · exact ⟨v, u11, f1, v1, v2, v3, v4, v5⟩
set_option maxHeartbeats 4000000 in
/-- one word more -/
theorem word_v {L tk : List Str} {many sh k : Int} {e8 e9 e10 e11 : Option P} (τ : Tau) (h1 : L.length ≤ 1000) (h2 : tk.length ≤ 1000) :
    ∃ (v : Str) (u8 u9 u10 u11 : Option P) (τ' : Tau), b__law_words_1 V__law_reserved V__law_draw [some .tape, some (.int many), some (.lst (tk.map P.str)), some (.str sA), some (.str sM), some (.int sh), some (.own (L.map P.str)), some (.int k), e8, e9, e10, e11] τ = some (.nx, [some .tape, some (.int many), some (.lst (tk.map P.str)), some (.str sA), some (.str sM), some (.int sh), some (.own ((L ++ [v]).map P.str)), some (.int k), u8, u9, u10, u11], τ') ∧ v ∉ L ∧ v ∉ tk ∧ v ∉ R16 ∧ SOk v ∧ v.length ≤ 200 := by
  obtain ⟨n, τ1, d1, n1⟩ := draw_lit τ 106782
  obtain ⟨a1, a1o, a1l, a1e⟩ := pick (x := sA) (i := (n : Int) % 26) sA_ok.1 (by omega) (by rw [sA_ok.2.1]; omega) (by rw [sA_ok.2.2]; omega)
  obtain ⟨a2, a2o, a2l, a2e⟩ := pick (x := sM) (i := ((n : Int) / 26) % 37) sM_ok.1 (by omega) (by rw [sM_ok.2.1]; omega) (by rw [sM_ok.2.2]; omega)
  obtain ⟨a3, a3o, a3l, a3e⟩ := pick (x := sM) (i := ((n : Int) / 962) % 37) sM_ok.1 (by omega) (by rw [sM_ok.2.1]; omega) (by rw [sM_ok.2.2]; omega)
  have lb := line_big
  have p1 := pAdd_str a1 a2 (by omega)
  have p2 := pAdd_str (a1 ++ a2) a3 (by rw [len_app]; omega)
  have wl : (a1 ++ a2 ++ a3).length = 3 := by rw [len_app, len_app]; omega
  have wo : SOk (a1 ++ a2 ++ a3) := sok_app (sok_app a1o a2o) a3o
  have p3 := pSl_str (z := a1 ++ a2 ++ a3) none (some (1 + (n : Int) / 35594 % 3)) (by omega)
  have cl := cut_len (a1 ++ a2 ++ a3) none (some (1 + (n : Int) / 35594 % 3))
  have co := sok_cut wo none (some (1 + (n : Int) / 35594 % 3))
  generalize cutS (a1 ++ a2 ++ a3) none (some (1 + (n : Int) / 35594 % 3)) = w0 at *
  have f1 : pFdiv (.int n) (.int 26) = some (.int ((n : Int) / 26)) := pFdiv_int _ _ ⟨by decide, by decide⟩
  have f2 : pFdiv (.int n) (.int 962) = some (.int ((n : Int) / 962)) := pFdiv_int _ _ ⟨by decide, by decide⟩
  have f3 : pFdiv (.int n) (.int 35594) = some (.int ((n : Int) / 35594)) := pFdiv_int _ _ ⟨by decide, by decide⟩
  -- the shape of the word
  obtain ⟨w3, o3, q3, hS⟩ : ∃ w3 : Str, SOk w3 ∧ w3.length ≤ 60 ∧ ∀ g : PE → Tau → AnsV, vSeq (vIfS (vBl (vOp pEq (vVar 5) (vC (.int 1)))) (vAsg (.nm 9) (vOp pAdd (vC (.str (Str.ofString "customer_number_"))) (vVar 9))) vNext)
    (vSeq (vIfS (vBl (vOp pEq (vVar 5) (vC (.int 2)))) (vAsg (.nm 9) (vOp pAdd (vVar 9) (vSl (vC (.str (Str.ofString "_of_the_customer_1"))) none (some (vOp pSub (vC (.int 20)) (vCB qLen (vCons (vVar 9) vNil))))))) vNext)
    (vSeq (vIfS (vBl (vOp pEq (vVar 5) (vC (.int 3)))) (vAsg (.nm 9) (vOp pAdd (vOp pIx (vCall V__law_reserved vNil) (vOp pMod (vCB qInt (vCons (vVar 8) vNil)) (vC (.int 16)))) (vVar 9))) vNext) g))
      [some .tape, some (.int many), some (.lst (tk.map P.str)), some (.str sA), some (.str sM), some (.int sh), some (.own (L.map P.str)), some (.int k), some (.int n), some (.str w0), e10, e11] τ1 = g [some .tape, some (.int many), some (.lst (tk.map P.str)), some (.str sA), some (.str sM), some (.int sh), some (.own (L.map P.str)), some (.int k), some (.int n), some (.str w3), e10, e11] τ1 := by
    by_cases c1 : sh = 1
    · subst c1
      have g : pAdd (.str (Str.ofString "customer_number_")) (.str w0) = some (.str (sC ++ w0)) := pAdd_str sC w0 (by rw [sC_ok.2]; omega)
      exact ⟨sC ++ w0, sok_app sC_ok.1 co, by rw [len_app, sC_ok.2]; omega, fun z => by simp [g]⟩
    · by_cases c2 : sh = 2
      · subst c2
        have lc := cut_len sO none (some (20 - (w0.length : Int)))
        have ls := sO_ok.2
        have g1 : pSl (.str (Str.ofString "_of_the_customer_1")) none (some (20 - (w0.length : Int))) = some (.str (cutS sO none (some (20 - (w0.length : Int))))) := pSl_str (z := sO) none _ (by omega)
        have g := pAdd_str w0 (cutS sO none (some (20 - (w0.length : Int)))) (by omega)
        have ql : qLen1 (.str w0) = some (.int w0.length) := if_pos (by omega)
        exact ⟨w0 ++ cutS sO none (some (20 - (w0.length : Int))), sok_app co (sok_cut sO_ok.1 _ _), by rw [len_app]; omega, fun z => by simp [ql, g1, g]⟩
      · by_cases c3 : sh = 3
        · subst c3
          obtain ⟨y, hy, hm⟩ := get12 (l := R16) (i := (n : Int) % 16) (by omega) (by rw [R16_ok.2]; omega)
          have ry := R16_ok.1 y hm
          have hat := at_of (f := P.str) hy
          have g := pAdd_str y w0 (by omega)
          have rs := reserved_v τ1
          exact ⟨y ++ w0, sok_app ry.1 co, by rw [len_app]; omega, fun z => by simp [rs, hat, g]⟩
        · exact ⟨w0, co, by omega, fun z => by simp [c1, c2, c3]⟩
  obtain ⟨v, u11, f4, v1, v2, v3, v4, v5⟩ := fresh_v (L := L) (tk := tk) (w := w3) (b := w3) (e0 := some .tape) (e1 := some (.int many)) (e3 := some (.str sA)) (e4 := some (.str sM)) (e5 := some (.int sh)) (e7 := some (.int k)) (e8 := some (.int n)) (e11 := e11) (G := V__law_draw) τ1 o3 (by omega) o3 (by omega) (by omega) (by omega)
  have r := RgB.of (j := (L.length : Int) + tk.length + 2) (by omega)
  have e : ((L.length : Int) + tk.length + 2).toNat = L.length + tk.length + 2 := by omega
  have lz : L.length < sizeLine := by omega
  refine ⟨v, some (.int n), some (.str v), some (.str w3), u11, τ1, ?_, v1, v2, v3, v4, v5⟩
  simp only [b__law_words_1]
  rw [W_seq]
  have s1 : vAsg (.nm 8) (vCall V__law_draw (vCons (vVar 0) (vCons (vOp pMul (vOp pMul (vOp pMul (vC (.int 26)) (vC (.int 37))) (vC (.int 37))) (vC (.int 3))) vNil))) [some .tape, some (.int many), some (.lst (tk.map P.str)), some (.str sA), some (.str sM), some (.int sh), some (.own (L.map P.str)), some (.int k), e8, e9, e10, e11] τ = some (.nx, [some .tape, some (.int many), some (.lst (tk.map P.str)), some (.str sA), some (.str sM), some (.int sh), some (.own (L.map P.str)), some (.int k), some (.int n), e9, e10, e11], τ1) := by simp [d1]
  rw [s1]
  simp only
  rw [W_seq]
  have s2 : vAsg (.nm 9) (vOp pAdd (vOp pAdd (vOp pIx (vVar 3) (vOp pMod (vCB qInt (vCons (vVar 8) vNil)) (vC (.int 26)))) (vOp pIx (vVar 4) (vOp pMod (vCB qInt (vCons (vOp pFdiv (vVar 8) (vC (.int 26))) vNil)) (vC (.int 37))))) (vOp pIx (vVar 4) (vOp pMod (vCB qInt (vCons (vOp pFdiv (vVar 8) (vC (.int 962))) vNil)) (vC (.int 37))))) [some .tape, some (.int many), some (.lst (tk.map P.str)), some (.str sA), some (.str sM), some (.int sh), some (.own (L.map P.str)), some (.int k), some (.int n), e9, e10, e11] τ1 = some (.nx, [some .tape, some (.int many), some (.lst (tk.map P.str)), some (.str sA), some (.str sM), some (.int sh), some (.own (L.map P.str)), some (.int k), some (.int n), some (.str (a1 ++ a2 ++ a3)), e10, e11], τ1) := by simp [f1, f2, a1e, a2e, a3e, p1, p2]
  rw [s2]
  simp only
  rw [W_seq]
  have s3 : vAsg (.nm 9) (vSl (vVar 9) none (some (vOp pAdd (vC (.int 1)) (vOp pMod (vCB qInt (vCons (vOp pFdiv (vVar 8) (vC (.int 35594))) vNil)) (vC (.int 3)))))) [some .tape, some (.int many), some (.lst (tk.map P.str)), some (.str sA), some (.str sM), some (.int sh), some (.own (L.map P.str)), some (.int k), some (.int n), some (.str (a1 ++ a2 ++ a3)), e10, e11] τ1 = some (.nx, [some .tape, some (.int many), some (.lst (tk.map P.str)), some (.str sA), some (.str sM), some (.int sh), some (.own (L.map P.str)), some (.int k), some (.int n), some (.str w0), e10, e11], τ1) := by simp [f3, p3]
  rw [s3]
  simp only
  rw [hS]
  simp [r, e, f4, lz]
set_option maxHeartbeats 2000000 in
theorem words_v (τ : Tau) {tk : List Str} {many : Nat} (hm : many ≤ 500) (h2 : tk.length ≤ 1000) :
    ∃ (L : List Str) (τ' : Tau), V__law_words [.tape, .int many, .lst (tk.map P.str)] τ = some (.ok (.lst (L.map P.str)), τ') ∧ WordsOk tk L many ∧ ∀ x ∈ L, x ∉ R16 := by
  obtain ⟨sh, τ0, d0, -⟩ := draw_lit τ 8
  obtain ⟨pe', τ', h1, L, u7, u8, u9, u10, u11, rfl, W, wr⟩ := forV_all (tg := .nm 7) (fb := b__law_words_1 V__law_reserved V__law_draw)
    (fun j pe τ' => ∃ (L : List Str) (u7 u8 u9 u10 u11 : Option P), pe = [some .tape, some (.int many), some (.lst (tk.map P.str)), some (.str sA), some (.str sM), some (.int sh), some (.own (L.map P.str)), u7, u8, u9, u10, u11] ∧ WordsOk tk L j ∧ ∀ x ∈ L, x ∉ R16)
    (rangeP 0 many) [some .tape, some (.int many), some (.lst (tk.map P.str)), some (.str sA), some (.str sM), some (.int sh), some (.own []), none, none, none, none, none] τ0 ⟨[], none, none, none, none, none, rfl, .nil, by simp⟩ (by
      rintro j x pe τ hx ⟨L, u7, u8, u9, u10, u11, rfl, W, wr⟩
      obtain ⟨hj, rfl⟩ := rangeP_at hx
      obtain ⟨v, v8, v9, v10, v11, τ1, e, v1, v2, v3, v4, v5⟩ := word_v (L := L) (tk := tk) (many := many) (sh := sh) (k := j) (e8 := u8) (e9 := u9) (e10 := u10) (e11 := u11) τ (by rw [W.len]; omega) h2
      refine ⟨_, _, τ1, rfl, e, L ++ [v], some (.int j), v8, v9, v10, v11, rfl, W.snoc v1 v2 v4 v5, fun z hz => ?_⟩
      rcases List.mem_append.mp hz with hz | hz
      · exact wr z hz
      · simp at hz; rw [hz]; exact v3)
  rw [rangeP_len] at W
  have r : RgB (many : Int) := .of (by omega)
  have e1 : pAdd (.str (Str.ofString "abcdefghijklmnopqrstuvwxyz")) (.str (Str.ofString "0123456789_")) = some (.str sM) := pAdd_str sA sN (by rw [sA_ok.2.2, sN_ok.2.2]; have := line_big; omega)
  refine ⟨L, τ', ?_, W, wr⟩
  have h1' : forV (.nm 7) (b__law_words_1 V__law_reserved V__law_draw) (rangeP 0 many) [some .tape, some (.int many), some (.lst (tk.map P.str)), some (.str (Str.ofString "abcdefghijklmnopqrstuvwxyz")), some (.str sM), some (.int sh), some (.own []), none, none, none, none, none] τ0 = _ := h1
  simp [V__law_words, b__law_words, e1, d0, r, h1']
end LW
namespace LW
open PySem PySem.Spec PyProof.Rows L2 RT RZ DL VL
/-! ### records -/
inductive Cell where
  | nul | txt (x : Str) | val (x : Str)
deriving DecidableEq
def encC : Cell → P
  | .nul => .non
  | .txt x => .str x
  | .val x => .tup [.str x]
def encRow : Option (List Cell) → P
  | none => .non
  | some cs => .tup (cs.map encC)
abbrev Rec := List (Option (List Cell))
def encR (r : Rec) : P := .tup (r.map encRow)
def CellOk (ts : List Str) : Cell → Prop
  | .nul => True
  | .txt x => x ∈ ts
  | .val x => SOk x
structure RecOk (ts : List Str) (r : Rec) : Prop where
  len : r.length ≤ 24
  row : ∀ cs, some cs ∈ r → cs.length ≤ 24 ∧ ∀ c ∈ cs, CellOk ts c
theorem mem_get {α : Type} {l : List α} {i : Int} (h0 : 0 ≤ i) (h : i < l.length) : ∃ x, atI l i = some x ∧ x ∈ l := get12 h0 h
@[simp] theorem own_encC (c : Cell) : (encC c).isOwn = false := by cases c <;> rfl
@[simp] theorem own_encRow (c : Option (List Cell)) : (encRow c).isOwn = false := by cases c <;> rfl
@[simp] theorem own_encR (r : Rec) : (encR r).isOwn = false := rfl
@[simp] theorem thaw_encR (r : Rec) : (encR r).thaw = encR r := rfl
end LW
namespace LW
open PySem PySem.Spec PyProof.Rows L2 RT RZ DL VL
/-! ### tables -/
def sText : Str := Str.ofString "text"
theorem sText_ok : SOk sText := sok_lit
/-- a column: its label, its words (none: a text column), whether it may be null -/
structure Col where
  label : Str
  kind : Option (List Str)
  null : Bool
structure Tab where
  name : Str
  opt : Bool
  cols : List Col
def kindP : Option (List Str) → P
  | none => .str sText
  | some ws => .tup (ws.map P.str)
def Col.p (c : Col) : P := .tup [.str c.label, kindP c.kind, .bl c.null]
def Tab.p (t : Tab) : P := .tup [.str t.name, .bl t.opt, .tup (t.cols.map Col.p)]
def encT (ts : List Tab) : P := .tup (ts.map Tab.p)
@[simp] theorem own_encT (ts : List Tab) : (encT ts).isOwn = false := rfl
@[simp] theorem thaw_encT (ts : List Tab) : (encT ts).thaw = encT ts := rfl
@[simp] theorem own_colp (c : Col) : c.p.isOwn = false := rfl
@[simp] theorem own_tabp (c : Tab) : c.p.isOwn = false := rfl
def Col.Ok (c : Col) : Prop := SOk c.label ∧ ∀ ws, c.kind = some ws → (∀ x ∈ ws, SOk x) ∧ ws.Nodup ∧ ws ≠ [] ∧ ws.length ≤ 1000
structure Tab.Ok (t : Tab) : Prop where
  name : SOk t.name
  cols : ∀ c ∈ t.cols, c.Ok
  nd : (t.cols.map Col.label).Nodup
  ne : t.cols ≠ []
  few : t.cols.length ≤ 24
structure TabsOk (l : List Tab) : Prop where
  tab : ∀ t ∈ l, t.Ok
  nd : (l.map Tab.name).Nodup
  ne : l ≠ []
  few : l.length ≤ 20
/-! cells -/
def Cell.Ok : Cell → Prop
  | .nul => True
  | .txt x => SOk x
  | .val w => SOk w
theorem gdC {c : Cell} (h : c.Ok) : Gd true 2 (encC c) = true := by
  cases c with
  | nul => exact Gd_non _ _
  | txt x =>
    show Gd true 2 (.str x) = true
    rw [Gd_str]
    exact h
  | val x =>
    show Gd true 2 (.tup [.str x]) = true
    rw [Gd_tup]
    simp
    exact h
theorem encC_inj {a b : Cell} : encC a = encC b ↔ a = b := by
  refine ⟨fun h => ?_, fun h => by rw [h]⟩
  cases a <;> cases b <;> simp [encC] at h <;> first | rfl | rw [h]
theorem eqP_cell {a b : Cell} (ha : a.Ok) (hb : b.Ok) : eqP (encC a) (encC b) = some (decide (a = b)) := eqP_iff (gdC ha) (gdC hb) encC_inj
/-- a column's kind, asked for text -/
theorem eqP_kind {c : Col} (h : c.Ok) : eqP (kindP c.kind) (.str sText) = some c.kind.isNone := by
  cases e : c.kind with
  | none => simp [kindP]
  | some ws =>
    have h1 : Gd true 2 (kindP (some ws)) = true := by
      show Gd true 2 (.tup (ws.map P.str)) = true
      rw [Gd_tup]
      exact Gds_strs _ _ (h.2 ws e).1
    have h2 : Gd true 2 (.str sText) = true := by rw [Gd_str]; exact sText_ok
    have := eqP_iff (c := False) h1 h2 ⟨fun q => (by cases q), fun q => q.elim⟩
    rw [this]
    simp
/-! conditions -/
inductive Opd where
  | cell (c : Cell) | column (t c : Str)
def Opd.p : Opd → P
  | .cell c => .tup [.str (Str.ofString "cell"), encC c]
  | .column t c => .tup [.str (Str.ofString "column"), .str t, .str c]
inductive Cond where
  | tru | fls | exi (t : Str) | eq (a b : Opd) | ne (a b : Opd) | nt (c : Cond) | an (l : List Cond) | orr (l : List Cond)
mutual
def Cond.p : Cond → P
  | .tru => .tup [.str (Str.ofString "true")]
  | .fls => .tup [.str (Str.ofString "false")]
  | .exi t => .tup [.str (Str.ofString "exists"), .str t]
  | .eq a b => .tup [.str (Str.ofString "="), a.p, b.p]
  | .ne a b => .tup [.str (Str.ofString "!="), a.p, b.p]
  | .nt c => .tup [.str (Str.ofString "not"), c.p]
  | .an l => .tup [.str (Str.ofString "and"), .tup (Cond.ps l)]
  | .orr l => .tup [.str (Str.ofString "or"), .tup (Cond.ps l)]
def Cond.ps : List Cond → List P
  | [] => []
  | c :: l => c.p :: Cond.ps l
end
theorem Cond.ps_map : ∀ l : List Cond, Cond.ps l = l.map Cond.p
  | [] => rfl
  | c :: l => by rw [Cond.ps, Cond.ps_map l, List.map_cons]
@[simp] theorem own_condp (c : Cond) : c.p.isOwn = false := by cases c <;> rfl
@[simp] theorem thaw_condp (c : Cond) : c.p.thaw = c.p := thaw_of (own_condp c)
@[simp] theorem own_opdp (c : Opd) : c.p.isOwn = false := by cases c <;> rfl
@[simp] theorem thaw_opdp (c : Opd) : c.p.thaw = c.p := thaw_of (own_opdp c)
@[simp] theorem thaw_encC (c : Cell) : (encC c).thaw = encC c := thaw_of (own_encC c)
theorem enumP_get {α : Type} {f : α → P} {l : List α} {j : Nat} {x : P} (h : (enumP (l.map f))[j]? = some x) : ∃ a, l[j]? = some a ∧ x = .tup [.int j, f a] := by
  unfold enumP at h
  rw [List.getElem?_map, List.getElem?_zipIdx, List.getElem?_map] at h
  cases e : l[j]? with
  | none =>
    rw [e] at h
    cases h
  | some a =>
    rw [e] at h
    simp at h
    exact ⟨a, rfl, h.symm⟩
@[simp] theorem enumP_len (l : List P) : (enumP l).length = l.length := by simp [enumP]
theorem nodup_at {l : List Str} (h : l.Nodup) {i j : Nat} {x : Str} (hi : l[i]? = some x) (hj : l[j]? = some x) : i = j := by
  obtain ⟨li, ei⟩ := List.getElem?_eq_some_iff.mp hi
  obtain ⟨lj, ej⟩ := List.getElem?_eq_some_iff.mp hj
  have p := List.pairwise_iff_getElem.mp h
  rcases Nat.lt_trichotomy i j with q | q | q
  · exact absurd (ei.trans ej.symm) (p i j li lj q)
  · exact q
  · exact absurd (ej.trans ei.symm) (p j i lj li q)
set_option maxHeartbeats 1000000 in
theorem table_place_v {ts : List Tab} {i : Nat} {t : Tab} (τ : Tau) (nd : (ts.map Tab.name).Nodup) (h : ts[i]? = some t) : V_table_place [encT ts, .str t.name] τ = some (.ok (.int i), τ) := by
  rcases forV_rule (tg := .tp [(.nm 2), (.nm 3)]) (fb := b_table_place_1)
    (fun j pe τ' => ∃ w2 w3, pe = [some (encT ts), some (.str t.name), w2, w3] ∧ τ' = τ ∧ j ≤ i) (fun _ _ => False)
    (fun p τ' => p = .int i ∧ τ' = τ) (enumP (ts.map Tab.p)) 0 [some (encT ts), some (.str t.name), none, none] τ ⟨_, _, rfl, rfl, Nat.zero_le _⟩ (by
      rintro j x pe τ' hx ⟨w2, w3, rfl, rfl, hj⟩
      rw [Nat.zero_add] at hj ⊢
      obtain ⟨u, hu, rfl⟩ := enumP_get hx
      refine ⟨[some (encT ts), some (.str t.name), some (.int (j : Int)), some u.p], by simp, ?_⟩
      by_cases e : u.name = t.name
      · right; right
        have : j = i := nodup_at nd (x := t.name) (by rw [List.getElem?_map, hu]; simp [e]) (by rw [List.getElem?_map, h]; rfl)
        subst this
        exact ⟨.int j, [some (encT ts), some (.str t.name), some (.int (j : Int)), some u.p], τ', by simp [b_table_place_1, Tab.p, e], rfl, rfl⟩
      · left
        have : j ≠ i := by
          rintro rfl
          rw [h] at hu
          cases hu
          exact e rfl
        exact ⟨[some (encT ts), some (.str t.name), some (.int (j : Int)), some u.p], τ', .inl (by simp [b_table_place_1, Tab.p, e]), _, _, rfl, rfl, by omega⟩) with ⟨pe', τ', h1, ⟨w2, w3, rfl, rfl, hj⟩ | h2⟩ | ⟨p, pe', τ', h1, rfl, rfl⟩
  · exfalso
    have := (List.getElem?_eq_some_iff.mp h).1
    simp at hj
    omega
  · exact False.elim h2
  · simp [encT] at h1
    simp [V_table_place, b_table_place, encT, qEnumC, itemsC, items, h1]
set_option maxHeartbeats 1000000 in
theorem column_place_v {u : Tab} {i : Nat} {c : Col} (τ : Tau) (nd : (u.cols.map Col.label).Nodup) (h : u.cols[i]? = some c) : V_column_place [u.p, .str c.label] τ = some (.ok (.int i), τ) := by
  rcases forV_rule (tg := .tp [(.nm 2), (.nm 3)]) (fb := b_column_place_1)
    (fun j pe τ' => ∃ w2 w3, pe = [some u.p, some (.str c.label), w2, w3] ∧ τ' = τ ∧ j ≤ i) (fun _ _ => False)
    (fun p τ' => p = .int i ∧ τ' = τ) (enumP (u.cols.map Col.p)) 0 [some u.p, some (.str c.label), none, none] τ ⟨_, _, rfl, rfl, Nat.zero_le _⟩ (by
      rintro j x pe τ' hx ⟨w2, w3, rfl, rfl, hj⟩
      rw [Nat.zero_add] at hj ⊢
      obtain ⟨v, hu, rfl⟩ := enumP_get hx
      refine ⟨[some u.p, some (.str c.label), some (.int (j : Int)), some v.p], by simp, ?_⟩
      by_cases e : v.label = c.label
      · right; right
        have : j = i := nodup_at nd (x := c.label) (by rw [List.getElem?_map, hu]; simp [e]) (by rw [List.getElem?_map, h]; rfl)
        subst this
        exact ⟨.int j, [some u.p, some (.str c.label), some (.int (j : Int)), some v.p], τ', by simp [b_column_place_1, Col.p, e], rfl, rfl⟩
      · left
        have : j ≠ i := by
          rintro rfl
          rw [h] at hu
          cases hu
          exact e rfl
        exact ⟨[some u.p, some (.str c.label), some (.int (j : Int)), some v.p], τ', .inl (by simp [b_column_place_1, Col.p, e]), _, _, rfl, rfl, by omega⟩) with ⟨pe', τ', h1, ⟨w2, w3, rfl, rfl, hj⟩ | h2⟩ | ⟨p, pe', τ', h1, rfl, rfl⟩
  · exfalso
    have := (List.getElem?_eq_some_iff.mp h).1
    simp at hj
    omega
  · exact False.elim h2
  · simp [Tab.p] at h1
    simp [V_column_place, b_column_place, Tab.p, qEnumC, itemsC, items, h1]
/-- what an operand denotes -/
def Denotes (ts : List Tab) (r : Rec) : Opd → Cell → Prop
  | .cell c, x => x = c
  | .column tn cn, x => ∃ (i : Nat) (t : Tab) (j : Nat) (c : Col), ts[i]? = some t ∧ t.name = tn ∧ t.cols[j]? = some c ∧ c.label = cn ∧ ((r[i]? = some none ∧ x = .nul) ∨ ∃ cs, r[i]? = some (some cs) ∧ cs[j]? = some x)
theorem cell_ne_col : ¬ Str.ofString "column" = Str.ofString "cell" := by decide +kernel
theorem at_tab {ts : List Tab} {k : Nat} {u : Tab} (h : ts[k]? = some u) : atI (ts.map Tab.p) (k : Int) = some (.tup [.str u.name, .bl u.opt, .tup (u.cols.map Col.p)]) := at_map (f := Tab.p) h
theorem at_col {cs : List Col} {k : Nat} {c : Col} (h : cs[k]? = some c) : atI (cs.map Col.p) (k : Int) = some (.tup [.str c.label, kindP c.kind, .bl c.null]) := at_map (f := Col.p) h
set_option maxHeartbeats 1000000 in
theorem cell_at_v {ts : List Tab} {r : Rec} {o : Opd} {x : Cell} (τ : Tau) (ok : TabsOk ts) (h : Denotes ts r o x) : V_cell_at [encT ts, o.p, encR r] τ = some (.ok (encC x), τ) := by
  cases o with
  | cell c =>
    cases h
    simp [V_cell_at, b_cell_at, Opd.p]
  | column tn cn =>
    obtain ⟨i, t, j, c, h1, rfl, h3, rfl, h5⟩ := h
    have q1 := table_place_v τ ok.nd h1
    have q2 := column_place_v τ (ok.tab t (List.mem_of_getElem? h1)).nd h3
    have q3 := at_map (f := Tab.p) h1
    rcases h5 with ⟨h5, rfl⟩ | ⟨cs, h5, h6⟩
    · have q4 := at_map (f := encRow) h5
      simp [V_cell_at, b_cell_at, Opd.p, cell_ne_col, q1, encR, q4, encRow, encC]
    · have q4 := at_map (f := encRow) h5
      have q5 := at_map (f := encC) h6
      simp [encRow] at q4
      simp [encT] at q1
      simp [V_cell_at, b_cell_at, Opd.p, cell_ne_col, q1, encR, q4, encT, q3, q2, q5]
end LW
namespace LW
open PySem PySem.Spec PyProof.Rows L2 RT RZ DL VL
/-! ### words of trees differ -/
@[simp] theorem kn_0_1 : (Str.ofString "=" = Str.ofString "!=") = False := by decide +kernel
@[simp] theorem kn_0_2 : (Str.ofString "=" = Str.ofString "and") = False := by decide +kernel
@[simp] theorem kn_0_3 : (Str.ofString "=" = Str.ofString "or") = False := by decide +kernel
@[simp] theorem kn_0_4 : (Str.ofString "=" = Str.ofString "not") = False := by decide +kernel
@[simp] theorem kn_0_5 : (Str.ofString "=" = Str.ofString "exists") = False := by decide +kernel
@[simp] theorem kn_0_6 : (Str.ofString "=" = Str.ofString "true") = False := by decide +kernel
@[simp] theorem kn_0_7 : (Str.ofString "=" = Str.ofString "false") = False := by decide +kernel
@[simp] theorem kn_0_8 : (Str.ofString "=" = Str.ofString "cell") = False := by decide +kernel
@[simp] theorem kn_0_9 : (Str.ofString "=" = Str.ofString "column") = False := by decide +kernel
@[simp] theorem kn_0_10 : (Str.ofString "=" = Str.ofString "if") = False := by decide +kernel
@[simp] theorem kn_1_0 : (Str.ofString "!=" = Str.ofString "=") = False := by decide +kernel
@[simp] theorem kn_1_2 : (Str.ofString "!=" = Str.ofString "and") = False := by decide +kernel
@[simp] theorem kn_1_3 : (Str.ofString "!=" = Str.ofString "or") = False := by decide +kernel
@[simp] theorem kn_1_4 : (Str.ofString "!=" = Str.ofString "not") = False := by decide +kernel
@[simp] theorem kn_1_5 : (Str.ofString "!=" = Str.ofString "exists") = False := by decide +kernel
@[simp] theorem kn_1_6 : (Str.ofString "!=" = Str.ofString "true") = False := by decide +kernel
@[simp] theorem kn_1_7 : (Str.ofString "!=" = Str.ofString "false") = False := by decide +kernel
@[simp] theorem kn_1_8 : (Str.ofString "!=" = Str.ofString "cell") = False := by decide +kernel
@[simp] theorem kn_1_9 : (Str.ofString "!=" = Str.ofString "column") = False := by decide +kernel
@[simp] theorem kn_1_10 : (Str.ofString "!=" = Str.ofString "if") = False := by decide +kernel
@[simp] theorem kn_2_0 : (Str.ofString "and" = Str.ofString "=") = False := by decide +kernel
@[simp] theorem kn_2_1 : (Str.ofString "and" = Str.ofString "!=") = False := by decide +kernel
@[simp] theorem kn_2_3 : (Str.ofString "and" = Str.ofString "or") = False := by decide +kernel
@[simp] theorem kn_2_4 : (Str.ofString "and" = Str.ofString "not") = False := by decide +kernel
@[simp] theorem kn_2_5 : (Str.ofString "and" = Str.ofString "exists") = False := by decide +kernel
@[simp] theorem kn_2_6 : (Str.ofString "and" = Str.ofString "true") = False := by decide +kernel
@[simp] theorem kn_2_7 : (Str.ofString "and" = Str.ofString "false") = False := by decide +kernel
@[simp] theorem kn_2_8 : (Str.ofString "and" = Str.ofString "cell") = False := by decide +kernel
@[simp] theorem kn_2_9 : (Str.ofString "and" = Str.ofString "column") = False := by decide +kernel
@[simp] theorem kn_2_10 : (Str.ofString "and" = Str.ofString "if") = False := by decide +kernel
@[simp] theorem kn_3_0 : (Str.ofString "or" = Str.ofString "=") = False := by decide +kernel
@[simp] theorem kn_3_1 : (Str.ofString "or" = Str.ofString "!=") = False := by decide +kernel
@[simp] theorem kn_3_2 : (Str.ofString "or" = Str.ofString "and") = False := by decide +kernel
@[simp] theorem kn_3_4 : (Str.ofString "or" = Str.ofString "not") = False := by decide +kernel
@[simp] theorem kn_3_5 : (Str.ofString "or" = Str.ofString "exists") = False := by decide +kernel
@[simp] theorem kn_3_6 : (Str.ofString "or" = Str.ofString "true") = False := by decide +kernel
@[simp] theorem kn_3_7 : (Str.ofString "or" = Str.ofString "false") = False := by decide +kernel
@[simp] theorem kn_3_8 : (Str.ofString "or" = Str.ofString "cell") = False := by decide +kernel
@[simp] theorem kn_3_9 : (Str.ofString "or" = Str.ofString "column") = False := by decide +kernel
@[simp] theorem kn_3_10 : (Str.ofString "or" = Str.ofString "if") = False := by decide +kernel
@[simp] theorem kn_4_0 : (Str.ofString "not" = Str.ofString "=") = False := by decide +kernel
@[simp] theorem kn_4_1 : (Str.ofString "not" = Str.ofString "!=") = False := by decide +kernel
@[simp] theorem kn_4_2 : (Str.ofString "not" = Str.ofString "and") = False := by decide +kernel
@[simp] theorem kn_4_3 : (Str.ofString "not" = Str.ofString "or") = False := by decide +kernel
@[simp] theorem kn_4_5 : (Str.ofString "not" = Str.ofString "exists") = False := by decide +kernel
@[simp] theorem kn_4_6 : (Str.ofString "not" = Str.ofString "true") = False := by decide +kernel
@[simp] theorem kn_4_7 : (Str.ofString "not" = Str.ofString "false") = False := by decide +kernel
@[simp] theorem kn_4_8 : (Str.ofString "not" = Str.ofString "cell") = False := by decide +kernel
@[simp] theorem kn_4_9 : (Str.ofString "not" = Str.ofString "column") = False := by decide +kernel
@[simp] theorem kn_4_10 : (Str.ofString "not" = Str.ofString "if") = False := by decide +kernel
@[simp] theorem kn_5_0 : (Str.ofString "exists" = Str.ofString "=") = False := by decide +kernel
@[simp] theorem kn_5_1 : (Str.ofString "exists" = Str.ofString "!=") = False := by decide +kernel
@[simp] theorem kn_5_2 : (Str.ofString "exists" = Str.ofString "and") = False := by decide +kernel
@[simp] theorem kn_5_3 : (Str.ofString "exists" = Str.ofString "or") = False := by decide +kernel
@[simp] theorem kn_5_4 : (Str.ofString "exists" = Str.ofString "not") = False := by decide +kernel
@[simp] theorem kn_5_6 : (Str.ofString "exists" = Str.ofString "true") = False := by decide +kernel
@[simp] theorem kn_5_7 : (Str.ofString "exists" = Str.ofString "false") = False := by decide +kernel
@[simp] theorem kn_5_8 : (Str.ofString "exists" = Str.ofString "cell") = False := by decide +kernel
@[simp] theorem kn_5_9 : (Str.ofString "exists" = Str.ofString "column") = False := by decide +kernel
@[simp] theorem kn_5_10 : (Str.ofString "exists" = Str.ofString "if") = False := by decide +kernel
@[simp] theorem kn_6_0 : (Str.ofString "true" = Str.ofString "=") = False := by decide +kernel
@[simp] theorem kn_6_1 : (Str.ofString "true" = Str.ofString "!=") = False := by decide +kernel
@[simp] theorem kn_6_2 : (Str.ofString "true" = Str.ofString "and") = False := by decide +kernel
@[simp] theorem kn_6_3 : (Str.ofString "true" = Str.ofString "or") = False := by decide +kernel
@[simp] theorem kn_6_4 : (Str.ofString "true" = Str.ofString "not") = False := by decide +kernel
@[simp] theorem kn_6_5 : (Str.ofString "true" = Str.ofString "exists") = False := by decide +kernel
@[simp] theorem kn_6_7 : (Str.ofString "true" = Str.ofString "false") = False := by decide +kernel
@[simp] theorem kn_6_8 : (Str.ofString "true" = Str.ofString "cell") = False := by decide +kernel
@[simp] theorem kn_6_9 : (Str.ofString "true" = Str.ofString "column") = False := by decide +kernel
@[simp] theorem kn_6_10 : (Str.ofString "true" = Str.ofString "if") = False := by decide +kernel
@[simp] theorem kn_7_0 : (Str.ofString "false" = Str.ofString "=") = False := by decide +kernel
@[simp] theorem kn_7_1 : (Str.ofString "false" = Str.ofString "!=") = False := by decide +kernel
@[simp] theorem kn_7_2 : (Str.ofString "false" = Str.ofString "and") = False := by decide +kernel
@[simp] theorem kn_7_3 : (Str.ofString "false" = Str.ofString "or") = False := by decide +kernel
@[simp] theorem kn_7_4 : (Str.ofString "false" = Str.ofString "not") = False := by decide +kernel
@[simp] theorem kn_7_5 : (Str.ofString "false" = Str.ofString "exists") = False := by decide +kernel
@[simp] theorem kn_7_6 : (Str.ofString "false" = Str.ofString "true") = False := by decide +kernel
@[simp] theorem kn_7_8 : (Str.ofString "false" = Str.ofString "cell") = False := by decide +kernel
@[simp] theorem kn_7_9 : (Str.ofString "false" = Str.ofString "column") = False := by decide +kernel
@[simp] theorem kn_7_10 : (Str.ofString "false" = Str.ofString "if") = False := by decide +kernel
@[simp] theorem kn_8_0 : (Str.ofString "cell" = Str.ofString "=") = False := by decide +kernel
@[simp] theorem kn_8_1 : (Str.ofString "cell" = Str.ofString "!=") = False := by decide +kernel
@[simp] theorem kn_8_2 : (Str.ofString "cell" = Str.ofString "and") = False := by decide +kernel
@[simp] theorem kn_8_3 : (Str.ofString "cell" = Str.ofString "or") = False := by decide +kernel
@[simp] theorem kn_8_4 : (Str.ofString "cell" = Str.ofString "not") = False := by decide +kernel
@[simp] theorem kn_8_5 : (Str.ofString "cell" = Str.ofString "exists") = False := by decide +kernel
@[simp] theorem kn_8_6 : (Str.ofString "cell" = Str.ofString "true") = False := by decide +kernel
@[simp] theorem kn_8_7 : (Str.ofString "cell" = Str.ofString "false") = False := by decide +kernel
@[simp] theorem kn_8_9 : (Str.ofString "cell" = Str.ofString "column") = False := by decide +kernel
@[simp] theorem kn_8_10 : (Str.ofString "cell" = Str.ofString "if") = False := by decide +kernel
@[simp] theorem kn_9_0 : (Str.ofString "column" = Str.ofString "=") = False := by decide +kernel
@[simp] theorem kn_9_1 : (Str.ofString "column" = Str.ofString "!=") = False := by decide +kernel
@[simp] theorem kn_9_2 : (Str.ofString "column" = Str.ofString "and") = False := by decide +kernel
@[simp] theorem kn_9_3 : (Str.ofString "column" = Str.ofString "or") = False := by decide +kernel
@[simp] theorem kn_9_4 : (Str.ofString "column" = Str.ofString "not") = False := by decide +kernel
@[simp] theorem kn_9_5 : (Str.ofString "column" = Str.ofString "exists") = False := by decide +kernel
@[simp] theorem kn_9_6 : (Str.ofString "column" = Str.ofString "true") = False := by decide +kernel
@[simp] theorem kn_9_7 : (Str.ofString "column" = Str.ofString "false") = False := by decide +kernel
@[simp] theorem kn_9_8 : (Str.ofString "column" = Str.ofString "cell") = False := by decide +kernel
@[simp] theorem kn_9_10 : (Str.ofString "column" = Str.ofString "if") = False := by decide +kernel
@[simp] theorem kn_10_0 : (Str.ofString "if" = Str.ofString "=") = False := by decide +kernel
@[simp] theorem kn_10_1 : (Str.ofString "if" = Str.ofString "!=") = False := by decide +kernel
@[simp] theorem kn_10_2 : (Str.ofString "if" = Str.ofString "and") = False := by decide +kernel
@[simp] theorem kn_10_3 : (Str.ofString "if" = Str.ofString "or") = False := by decide +kernel
@[simp] theorem kn_10_4 : (Str.ofString "if" = Str.ofString "not") = False := by decide +kernel
@[simp] theorem kn_10_5 : (Str.ofString "if" = Str.ofString "exists") = False := by decide +kernel
@[simp] theorem kn_10_6 : (Str.ofString "if" = Str.ofString "true") = False := by decide +kernel
@[simp] theorem kn_10_7 : (Str.ofString "if" = Str.ofString "false") = False := by decide +kernel
@[simp] theorem kn_10_8 : (Str.ofString "if" = Str.ofString "cell") = False := by decide +kernel
@[simp] theorem kn_10_9 : (Str.ofString "if" = Str.ofString "column") = False := by decide +kernel
end LW
namespace LW
open PySem PySem.Spec PyProof.Rows L2 RT RZ DL VL
/-! ### the law's own cell -/
set_option maxHeartbeats 2000000 in
theorem lcIn_v {ts : List Tab} {r : Rec} {t : Tab} {i j : Nat} {c : Col} {cs : List Cell} {x : Cell} {e4 : Option P} (τ : Tau) (h1 : ts[i]? = some t) (nd : (t.cols.map Col.label).Nodup) (h3 : t.cols[j]? = some c) (h5 : r[i]? = some (some cs)) (h6 : cs[j]? = some x) :
    ∃ pe', forV (.nm 4) b__law_cell_2 (rangeP 0 t.cols.length) [some (encT ts), some (Opd.column t.name c.label).p, some (encR r), some (.int (i : Int)), e4] τ = some (.rt (encC x), pe', τ) := by
  have q3 := at_tab h1
  have q4 := at_map (f := encRow) h5
  have q5 := at_map (f := encC) h6
  simp [encRow] at q4
  rcases forV_rule (tg := .nm 4) (fb := b__law_cell_2)
    (fun k pe τ' => ∃ w4, pe = [some (encT ts), some (Opd.column t.name c.label).p, some (encR r), some (.int (i : Int)), w4] ∧ τ' = τ ∧ k ≤ j) (fun _ _ => False)
    (fun d τ' => d = encC x ∧ τ' = τ) (rangeP 0 t.cols.length) 0 [some (encT ts), some (Opd.column t.name c.label).p, some (encR r), some (.int (i : Int)), e4] τ ⟨_, rfl, rfl, Nat.zero_le _⟩ (by
      rintro k y pe τ' hx ⟨w4, rfl, rfl, hk⟩
      rw [Nat.zero_add] at hk ⊢
      obtain ⟨kl, rfl⟩ := rangeP_at hx
      obtain ⟨u, hu⟩ : ∃ u, t.cols[k]? = some u := ⟨t.cols[k], by rw [List.getElem?_eq_getElem kl]⟩
      have q6 := at_col hu
      refine ⟨[some (encT ts), some (Opd.column t.name c.label).p, some (encR r), some (.int (i : Int)), some (.int (k : Int))], by simp, ?_⟩
      by_cases e : u.label = c.label
      · right; right
        have : k = j := nodup_at nd (x := c.label) (by rw [List.getElem?_map, hu]; simp [e]) (by rw [List.getElem?_map, h3]; rfl)
        subst this
        exact ⟨encC x, [some (encT ts), some (Opd.column t.name c.label).p, some (encR r), some (.int (i : Int)), some (.int (k : Int))], τ', by simp [b__law_cell_2, encT, q3, q6, Opd.p, e, encR, q4, q5], rfl, rfl⟩
      · left
        have : k ≠ j := by
          rintro rfl
          rw [h3] at hu
          cases hu
          exact e rfl
        exact ⟨[some (encT ts), some (Opd.column t.name c.label).p, some (encR r), some (.int (i : Int)), some (.int (k : Int))], τ', .inl (by simp [b__law_cell_2, encT, q3, q6, Opd.p, e]), _, rfl, rfl, by omega⟩) with ⟨pe', τ', f1, ⟨w4, rfl, rfl, hk⟩ | h2⟩ | ⟨d, pe', τ', f1, rfl, rfl⟩
  · exfalso
    have := (List.getElem?_eq_some_iff.mp h3).1
    simp at hk
    omega
  · exact False.elim h2
  · exact ⟨pe', f1⟩
set_option maxHeartbeats 2000000 in
theorem law_cell_v {ts : List Tab} {r : Rec} {o : Opd} {x : Cell} (τ : Tau) (ok : TabsOk ts) (h : Denotes ts r o x) : V__law_cell [encT ts, o.p, encR r] τ = some (.ok (encC x), τ) := by
  cases o with
  | cell c =>
    cases h
    simp [V__law_cell, b__law_cell, Opd.p]
  | column tn cn =>
    obtain ⟨i, t, j, c, h1, rfl, h3, rfl, h5⟩ := h
    have tk := ok.tab t (List.mem_of_getElem? h1)
    have il := (List.getElem?_eq_some_iff.mp h1).1
    have few := ok.few
    have rg : RgB (ts.length : Int) := .of (by omega)
    rcases forV_rule (tg := .nm 3) (fb := b__law_cell_1)
      (fun k pe τ' => ∃ w3 w4, pe = [some (encT ts), some (Opd.column t.name c.label).p, some (encR r), w3, w4] ∧ τ' = τ ∧ (k ≤ i ∨ x = .nul)) (fun _ _ => False)
      (fun d τ' => d = encC x ∧ τ' = τ) (rangeP 0 ts.length) 0 [some (encT ts), some (Opd.column t.name c.label).p, some (encR r), none, none] τ ⟨_, _, rfl, rfl, .inl (Nat.zero_le _)⟩ (by
        rintro k y pe τ' hx ⟨w3, w4, rfl, rfl, hk⟩
        rw [Nat.zero_add] at hk ⊢
        obtain ⟨kl, rfl⟩ := rangeP_at hx
        obtain ⟨u, hu⟩ : ∃ u, ts[k]? = some u := ⟨ts[k], by rw [List.getElem?_eq_getElem kl]⟩
        have q3 := at_tab hu
        refine ⟨[some (encT ts), some (Opd.column t.name c.label).p, some (encR r), some (.int (k : Int)), w4], by simp, ?_⟩
        by_cases e : u.name = t.name
        · have : k = i := nodup_at ok.nd (x := t.name) (by rw [List.getElem?_map, hu]; simp [e]) (by rw [List.getElem?_map, h1]; rfl)
          subst this
          rw [h1] at hu
          cases hu
          rcases h5 with ⟨h5, rfl⟩ | ⟨cs, h5, h6⟩
          · have q4 := at_map (f := encRow) h5
            simp [encRow] at q4
            exact .inl ⟨[some (encT ts), some (Opd.column t.name c.label).p, some (encR r), some (.int (k : Int)), w4], τ', .inl (by simp [b__law_cell_1, encT, q3, Opd.p, encR, q4]), _, _, rfl, rfl, .inr rfl⟩
          · have q4 := at_map (f := encRow) h5
            simp [encRow] at q4
            obtain ⟨pe2, f1⟩ := lcIn_v (e4 := w4) τ' h1 tk.nd h3 h5 h6
            have rc : RgB (t.cols.length : Int) := .of (by have := tk.few; omega)
            refine .inr (.inr ⟨encC x, pe2, τ', ?_, rfl, rfl⟩)
            simp only [b__law_cell_1]
            generalize b__law_cell_2 = z at f1 ⊢
            simp [encT, Opd.p, encR] at f1 ⊢
            simp [q3, q4, rc, f1]
        · have : k ≠ i := by
            rintro rfl
            rw [h1] at hu
            cases hu
            exact e rfl
          exact .inl ⟨[some (encT ts), some (Opd.column t.name c.label).p, some (encR r), some (.int (k : Int)), w4], τ', .inl (by simp [b__law_cell_1, encT, q3, Opd.p, e]), _, _, rfl, rfl, by rcases hk with hk | hk; exact .inl (by omega); exact .inr hk⟩) with ⟨pe', τ', f1, ⟨w3, w4, rfl, rfl, hk⟩ | h2⟩ | ⟨d, pe', τ', f1, rfl, rfl⟩
    · have xn : x = .nul := by
        rcases hk with hk | hk
        · simp at hk; omega
        · exact hk
      subst xn
      simp only [V__law_cell, b__law_cell]
      generalize b__law_cell_1 = z at f1 ⊢
      simp [encT, Opd.p] at f1 ⊢
      simp [rg, f1, encC]
    · exact False.elim h2
    · simp only [V__law_cell, b__law_cell]
      generalize b__law_cell_1 = z at f1 ⊢
      simp [encT, Opd.p] at f1 ⊢
      simp [rg, f1]
/-! ### the truth of a condition -/
mutual
def Tr (ts : List Tab) (r : Rec) : Cond → Bool → Prop
  | .tru, b => b = true
  | .fls, b => b = false
  | .exi tn, b => ∃ (i : Nat) (t : Tab) (row : Option (List Cell)), ts[i]? = some t ∧ t.name = tn ∧ r[i]? = some row ∧ b = row.isSome
  | .eq o p, b => ∃ x y : Cell, Denotes ts r o x ∧ Denotes ts r p y ∧ x.Ok ∧ y.Ok ∧ b = decide (x = y)
  | .ne o p, b => ∃ x y : Cell, Denotes ts r o x ∧ Denotes ts r p y ∧ x.Ok ∧ y.Ok ∧ b = !decide (x = y)
  | .nt c, b => Tr ts r c (!b)
  | .an l, b => TrA ts r l b
  | .orr l, b => TrO ts r l b
def TrA (ts : List Tab) (r : Rec) : List Cond → Bool → Prop
  | [], b => b = true
  | c :: l, b => ∃ b1 b2, Tr ts r c b1 ∧ TrA ts r l b2 ∧ b = (b1 && b2)
def TrO (ts : List Tab) (r : Rec) : List Cond → Bool → Prop
  | [], b => b = false
  | c :: l, b => ∃ b1 b2, Tr ts r c b1 ∧ TrO ts r l b2 ∧ b = (b1 || b2)
end
mutual
def dep : Cond → Nat
  | .nt c => dep c + 1
  | .an l => deps l + 1
  | .orr l => deps l + 1
  | _ => 0
def deps : List Cond → Nat
  | [] => 0
  | c :: l => max (dep c) (deps l)
end
/-- the walk of "and" -/
theorem and_loop {ts : List Tab} {r : Rec} {τ : Tau} {n : Nat} {e1 e3 : Option P} {G1 G2 : MirV} (ih : ∀ c b, (dep c ≤ n) → Tr ts r c b → Vn_holds (n + 1) [encT ts, c.p, encR r] τ = some (.ok (.bl b), τ)) : ∀ (l : List Cond) (b : Bool) (e4 : Option P), deps l ≤ n → TrA ts r l b →
    ∃ pe', forV (.nm 4) (b_holds_2 G1 (Vn_holds (n + 1)) G2) (Cond.ps l) [some (encT ts), e1, some (encR r), e3, e4] τ = if b then some (.nx, pe', τ) else some (.rt (.bl false), pe', τ)
  | [], b, e4, _, h => by
    cases h
    exact ⟨[some (encT ts), e1, some (encR r), e3, e4], rfl⟩
  | c :: l, b, e4, hd, h => by
    obtain ⟨b1, b2, h1, h2, rfl⟩ := h
    have hd' : max (dep c) (deps l) ≤ n := hd
    have q := ih c b1 (by omega) h1
    unfold Cond.ps forV
    cases b1 with
    | false =>
      refine ⟨[some (encT ts), e1, some (encR r), e3, some c.p], ?_⟩
      simp [b_holds_2, q]
    | true =>
      obtain ⟨pe', h3⟩ := and_loop (e1 := e1) (e3 := e3) (G1 := G1) (G2 := G2) ih l b2 (some c.p) (by omega) h2
      refine ⟨pe', ?_⟩
      have h4 : b_holds_2 G1 (Vn_holds (n + 1)) G2 [some (encT ts), e1, some (encR r), e3, some c.p] τ = some (.nx, [some (encT ts), e1, some (encR r), e3, some c.p], τ) := by simp [b_holds_2, q]
      simp [h4, h3]
theorem or_loop {ts : List Tab} {r : Rec} {τ : Tau} {n : Nat} {e1 e3 : Option P} {G1 G2 : MirV} (ih : ∀ c b, (dep c ≤ n) → Tr ts r c b → Vn_holds (n + 1) [encT ts, c.p, encR r] τ = some (.ok (.bl b), τ)) : ∀ (l : List Cond) (b : Bool) (e4 : Option P), deps l ≤ n → TrO ts r l b →
    ∃ pe', forV (.nm 4) (b_holds_1 G1 (Vn_holds (n + 1)) G2) (Cond.ps l) [some (encT ts), e1, some (encR r), e3, e4] τ = if b then some (.rt (.bl true), pe', τ) else some (.nx, pe', τ)
  | [], b, e4, _, h => by
    cases h
    exact ⟨[some (encT ts), e1, some (encR r), e3, e4], rfl⟩
  | c :: l, b, e4, hd, h => by
    obtain ⟨b1, b2, h1, h2, rfl⟩ := h
    have hd' : max (dep c) (deps l) ≤ n := hd
    have q := ih c b1 (by omega) h1
    unfold Cond.ps forV
    cases b1 with
    | true =>
      refine ⟨[some (encT ts), e1, some (encR r), e3, some c.p], ?_⟩
      simp [b_holds_1, q]
    | false =>
      obtain ⟨pe', h3⟩ := or_loop (e1 := e1) (e3 := e3) (G1 := G1) (G2 := G2) ih l b2 (some c.p) (by omega) h2
      refine ⟨pe', ?_⟩
      have h4 : b_holds_1 G1 (Vn_holds (n + 1)) G2 [some (encT ts), e1, some (encR r), e3, some c.p] τ = some (.nx, [some (encT ts), e1, some (encR r), e3, some c.p], τ) := by simp [b_holds_1, q]
      simp [h4, h3]
theorem Vn_holds_succ (n : Nat) : Vn_holds (n + 1) = runV 3 5 (b_holds V_table_place (Vn_holds n) V_cell_at) := rfl
set_option maxHeartbeats 4000000 in
theorem holds_leaf {ts : List Tab} {r : Rec} (τ : Tau) (ok : TabsOk ts) (n : Nat) (c : Cond) (b : Bool) (h0 : dep c = 0) (h : Tr ts r c b) : Vn_holds (n + 1) [encT ts, c.p, encR r] τ = some (.ok (.bl b), τ) := by
  rw [Vn_holds_succ]
  cases c with
  | tru => cases h; simp [b_holds, Cond.p]
  | fls => cases h; simp [b_holds, Cond.p]
  | exi tn =>
    obtain ⟨i, t, row, h1, rfl, h3, rfl⟩ := h
    have q1 := table_place_v τ ok.nd h1
    have q2 := at_map (f := encRow) h3
    cases row <;> simp [encRow] at q2 <;> simp [b_holds, Cond.p, q1, encR, q2]
  | eq o p =>
    obtain ⟨x, y, h1, h2, h3, h4, rfl⟩ := h
    have q1 := cell_at_v τ ok h1
    have q2 := cell_at_v τ ok h2
    have q3 := eqP_cell h3 h4
    simp [b_holds, Cond.p, q1, q2, q3]
  | ne o p =>
    obtain ⟨x, y, h1, h2, h3, h4, rfl⟩ := h
    have q1 := cell_at_v τ ok h1
    have q2 := cell_at_v τ ok h2
    have q3 := eqP_cell h3 h4
    simp [b_holds, Cond.p, q1, q2, q3]
  | nt c => cases h0
  | an l => cases h0
  | orr l => cases h0
set_option maxHeartbeats 4000000 in
/-- holds tells the truth -/
theorem holds_v {ts : List Tab} {r : Rec} (τ : Tau) (ok : TabsOk ts) : ∀ (n : Nat) (c : Cond) (b : Bool), dep c ≤ n → Tr ts r c b → Vn_holds (n + 1) [encT ts, c.p, encR r] τ = some (.ok (.bl b), τ) := by
  intro n
  induction n with
  | zero => exact fun c b hd h => holds_leaf τ ok 0 c b (by omega) h
  | succ n ih =>
    intro c b hd h
    by_cases h0 : dep c = 0
    · exact holds_leaf τ ok (n + 1) c b h0 h
    rw [Vn_holds_succ]
    cases c with
    | nt c =>
      have hd' : dep c + 1 ≤ n + 1 := hd
      have q := ih c (!b) (by omega) h
      simp [b_holds, Cond.p, q]
    | an l =>
      have hd' : deps l + 1 ≤ n + 1 := hd
      obtain ⟨pe', q⟩ := and_loop (e1 := some (Cond.an l).p) (e3 := some (.str (Str.ofString "and"))) (G1 := V_table_place) (G2 := V_cell_at) ih l b none (by omega) h
      cases b <;> simp [Cond.p] at q <;> simp [b_holds, Cond.p, q]
    | orr l =>
      have hd' : deps l + 1 ≤ n + 1 := hd
      obtain ⟨pe', q⟩ := or_loop (e1 := some (Cond.orr l).p) (e3 := some (.str (Str.ofString "or"))) (G1 := V_table_place) (G2 := V_cell_at) ih l b none (by omega) h
      cases b <;> simp [Cond.p] at q <;> simp [b_holds, Cond.p, q]
    | tru => exact absurd rfl h0
    | fls => exact absurd rfl h0
    | exi t => exact absurd rfl h0
    | eq o p => exact absurd rfl h0
    | ne o p => exact absurd rfl h0
end LW
namespace LW
open PySem PySem.Spec PyProof.Rows L2 RT RZ DL VL
/-! ### the law's own holds -/
theorem Vn__law_holds_succ (n : Nat) : Vn__law_holds (n + 1) = runV 3 6 (b__law_holds (Vn__law_holds n) V__law_cell) := rfl
set_option maxHeartbeats 2000000 in
theorem exi_loop {ts : List Tab} {r : Rec} {t : Tab} {i : Nat} {row : Option (List Cell)} {e3 e4 e5 : Option P} {G1 G2 : MirV} (τ : Tau) (nd : (ts.map Tab.name).Nodup) (h : ts[i]? = some t) (h3 : r[i]? = some row) :
    ∃ pe', forV (.nm 3) (b__law_holds_2 G1 G2) (rangeP 0 ts.length) [some (encT ts), some (Cond.exi t.name).p, some (encR r), e3, e4, e5] τ = some (.rt (.bl row.isSome), pe', τ) := by
  rcases forV_rule (tg := .nm 3) (fb := b__law_holds_2 G1 G2)
    (fun k pe τ' => ∃ w3, pe = [some (encT ts), some (Cond.exi t.name).p, some (encR r), w3, e4, e5] ∧ τ' = τ ∧ k ≤ i) (fun _ _ => False)
    (fun d τ' => d = .bl row.isSome ∧ τ' = τ) (rangeP 0 ts.length) 0 [some (encT ts), some (Cond.exi t.name).p, some (encR r), e3, e4, e5] τ ⟨_, rfl, rfl, Nat.zero_le _⟩ (by
      rintro k y pe τ' hx ⟨w3, rfl, rfl, hk⟩
      rw [Nat.zero_add] at hk ⊢
      obtain ⟨kl, rfl⟩ := rangeP_at hx
      obtain ⟨u, hu⟩ : ∃ u, ts[k]? = some u := ⟨ts[k], by rw [List.getElem?_eq_getElem kl]⟩
      have q3 := at_tab hu
      refine ⟨[some (encT ts), some (Cond.exi t.name).p, some (encR r), some (.int (k : Int)), e4, e5], by simp, ?_⟩
      by_cases e : u.name = t.name
      · right; right
        have : k = i := nodup_at nd (x := t.name) (by rw [List.getElem?_map, hu]; simp [e]) (by rw [List.getElem?_map, h]; rfl)
        subst this
        have q4 := at_map (f := encRow) h3
        refine ⟨.bl row.isSome, [some (encT ts), some (Cond.exi t.name).p, some (encR r), some (.int (k : Int)), e4, e5], τ', ?_, rfl, rfl⟩
        cases row <;> simp [encRow] at q4 <;> simp [b__law_holds_2, encT, q3, Cond.p, e, encR, q4]
      · left
        have : k ≠ i := by
          rintro rfl
          rw [h] at hu
          cases hu
          exact e rfl
        exact ⟨[some (encT ts), some (Cond.exi t.name).p, some (encR r), some (.int (k : Int)), e4, e5], τ', .inl (by simp [b__law_holds_2, encT, q3, Cond.p, e]), _, rfl, rfl, by omega⟩) with ⟨pe', τ', f1, ⟨w3, rfl, rfl, hk⟩ | h2⟩ | ⟨d, pe', τ', f1, rfl, rfl⟩
  · exfalso
    have := (List.getElem?_eq_some_iff.mp h).1
    simp at hk
    omega
  · exact False.elim h2
  · exact ⟨pe', f1⟩
theorem land_loop {ts : List Tab} {r : Rec} {τ : Tau} {n : Nat} {e3 e4 : Option P} {G2 : MirV} {ps : List P} (ih : ∀ c b, (dep c ≤ n) → Tr ts r c b → Vn__law_holds (n + 1) [encT ts, c.p, encR r] τ = some (.ok (.bl b), τ)) : ∀ (l : List Cond) (b : Bool) (e5 : Option P), deps l ≤ n → TrA ts r l b →
    ∃ pe', forV (.nm 5) (b__law_holds_1 (Vn__law_holds (n + 1)) G2) (Cond.ps l) [some (encT ts), some (.tup [.str (Str.ofString "and"), .tup ps]), some (encR r), e3, e4, e5] τ = (if b then some (.nx, pe', τ) else some (.rt (.bl false), pe', τ)) ∧ pe'[1]? = some (some (.tup [.str (Str.ofString "and"), .tup ps]))
  | [], b, e5, _, h => by
    cases h
    exact ⟨_, rfl, rfl⟩
  | c :: l, b, e5, hd, h => by
    obtain ⟨b1, b2, h1, h2, rfl⟩ := h
    have hd' : max (dep c) (deps l) ≤ n := hd
    have q := ih c b1 (by omega) h1
    unfold Cond.ps forV
    cases b1 with
    | false =>
      refine ⟨[some (encT ts), some (.tup [.str (Str.ofString "and"), .tup ps]), some (encR r), e3, e4, some c.p], ?_, rfl⟩
      simp [b__law_holds_1, q]
    | true =>
      obtain ⟨pe', h3, h5⟩ := land_loop (e3 := e3) (e4 := e4) (G2 := G2) (ps := ps) ih l b2 (some c.p) (by omega) h2
      refine ⟨pe', ?_, h5⟩
      have h4 : b__law_holds_1 (Vn__law_holds (n + 1)) G2 [some (encT ts), some (.tup [.str (Str.ofString "and"), .tup ps]), some (encR r), e3, e4, some c.p] τ = some (.nx, [some (encT ts), some (.tup [.str (Str.ofString "and"), .tup ps]), some (encR r), e3, e4, some c.p], τ) := by simp [b__law_holds_1, q]
      simp [h4, h3]
theorem lor_loop {ts : List Tab} {r : Rec} {τ : Tau} {n : Nat} {e3 e4 : Option P} {G2 : MirV} {ps : List P} (ih : ∀ c b, (dep c ≤ n) → Tr ts r c b → Vn__law_holds (n + 1) [encT ts, c.p, encR r] τ = some (.ok (.bl b), τ)) : ∀ (l : List Cond) (b : Bool) (e5 : Option P), deps l ≤ n → TrO ts r l b →
    ∃ pe', forV (.nm 5) (b__law_holds_1 (Vn__law_holds (n + 1)) G2) (Cond.ps l) [some (encT ts), some (.tup [.str (Str.ofString "or"), .tup ps]), some (encR r), e3, e4, e5] τ = (if b then some (.rt (.bl true), pe', τ) else some (.nx, pe', τ)) ∧ pe'[1]? = some (some (.tup [.str (Str.ofString "or"), .tup ps]))
  | [], b, e5, _, h => by
    cases h
    exact ⟨_, rfl, rfl⟩
  | c :: l, b, e5, hd, h => by
    obtain ⟨b1, b2, h1, h2, rfl⟩ := h
    have hd' : max (dep c) (deps l) ≤ n := hd
    have q := ih c b1 (by omega) h1
    unfold Cond.ps forV
    cases b1 with
    | true =>
      refine ⟨[some (encT ts), some (.tup [.str (Str.ofString "or"), .tup ps]), some (encR r), e3, e4, some c.p], ?_, rfl⟩
      simp [b__law_holds_1, q]
    | false =>
      obtain ⟨pe', h3, h5⟩ := lor_loop (e3 := e3) (e4 := e4) (G2 := G2) (ps := ps) ih l b2 (some c.p) (by omega) h2
      refine ⟨pe', ?_, h5⟩
      have h4 : b__law_holds_1 (Vn__law_holds (n + 1)) G2 [some (encT ts), some (.tup [.str (Str.ofString "or"), .tup ps]), some (encR r), e3, e4, some c.p] τ = some (.nx, [some (encT ts), some (.tup [.str (Str.ofString "or"), .tup ps]), some (encR r), e3, e4, some c.p], τ) := by simp [b__law_holds_1, q]
      simp [h4, h3]
set_option maxHeartbeats 4000000 in
theorem law_holds_leaf {ts : List Tab} {r : Rec} (τ : Tau) (ok : TabsOk ts) (n : Nat) (c : Cond) (b : Bool) (h0 : dep c = 0) (h : Tr ts r c b) : Vn__law_holds (n + 1) [encT ts, c.p, encR r] τ = some (.ok (.bl b), τ) := by
  rw [Vn__law_holds_succ]
  cases c with
  | tru => cases h; simp [b__law_holds, Cond.p]
  | fls => cases h; simp [b__law_holds, Cond.p]
  | exi tn =>
    obtain ⟨i, t, row, h1, rfl, h3, rfl⟩ := h
    have rg : RgB (ts.length : Int) := .of (by have := ok.few; omega)
    obtain ⟨pe', q⟩ := exi_loop (e3 := none) (e4 := none) (e5 := none) (G1 := Vn__law_holds n) (G2 := V__law_cell) τ ok.nd h1 h3
    simp only [b__law_holds]
    generalize b__law_holds_2 (Vn__law_holds n) V__law_cell = z at q ⊢
    simp [encT, Cond.p] at q ⊢
    simp [rg, q]
  | eq o p =>
    obtain ⟨x, y, h1, h2, h3, h4, rfl⟩ := h
    have q1 := law_cell_v τ ok h1
    have q2 := law_cell_v τ ok h2
    have q3 := eqP_cell h3 h4
    simp [b__law_holds, Cond.p, q1, q2, q3]
  | ne o p =>
    obtain ⟨x, y, h1, h2, h3, h4, rfl⟩ := h
    have q1 := law_cell_v τ ok h1
    have q2 := law_cell_v τ ok h2
    have q3 := eqP_cell h3 h4
    simp [b__law_holds, Cond.p, q1, q2, q3]
  | nt c => cases h0
  | an l => cases h0
  | orr l => cases h0
set_option maxHeartbeats 4000000 in
theorem law_holds_v {ts : List Tab} {r : Rec} (τ : Tau) (ok : TabsOk ts) : ∀ (n : Nat) (c : Cond) (b : Bool), dep c ≤ n → Tr ts r c b → Vn__law_holds (n + 1) [encT ts, c.p, encR r] τ = some (.ok (.bl b), τ) := by
  intro n
  induction n with
  | zero => exact fun c b hd h => law_holds_leaf τ ok 0 c b (by omega) h
  | succ n ih =>
    intro c b hd h
    by_cases h0 : dep c = 0
    · exact law_holds_leaf τ ok (n + 1) c b h0 h
    rw [Vn__law_holds_succ]
    cases c with
    | nt c =>
      have hd' : dep c + 1 ≤ n + 1 := hd
      have q := ih c (!b) (by omega) h
      simp [b__law_holds, Cond.p, q]
    | an l =>
      have hd' : deps l + 1 ≤ n + 1 := hd
      obtain ⟨pe', q, q5⟩ := land_loop (e3 := none) (e4 := none) (G2 := V__law_cell) (ps := Cond.ps l) ih l b none (by omega) h
      cases b <;> simp at q <;> simp [b__law_holds, Cond.p, q, q5]
    | orr l =>
      have hd' : deps l + 1 ≤ n + 1 := hd
      obtain ⟨pe', q, q5⟩ := lor_loop (e3 := none) (e4 := none) (G2 := V__law_cell) (ps := Cond.ps l) ih l b none (by omega) h
      cases b <;> simp at q <;> simp [b__law_holds, Cond.p, q, q5]
    | tru => exact absurd rfl h0
    | fls => exact absurd rfl h0
    | exi t => exact absurd rfl h0
    | eq o p => exact absurd rfl h0
    | ne o p => exact absurd rfl h0
end LW
namespace LW
open PySem PySem.Spec PyProof.Rows L2 RT RZ DL VL
/-! ### what drawn conditions are -/
def OpdOk (ts : List Tab) : Opd → Prop
  | .cell c => c.Ok
  | .column tn cn => ∃ t ∈ ts, t.name = tn ∧ ∃ c ∈ t.cols, c.label = cn
mutual
def CondOk (ts : List Tab) : Cond → Prop
  | .tru => True
  | .fls => True
  | .exi tn => ∃ t ∈ ts, t.name = tn
  | .eq a b => OpdOk ts a ∧ OpdOk ts b
  | .ne a b => OpdOk ts a ∧ OpdOk ts b
  | .nt c => CondOk ts c
  | .an l => CondsOk ts l
  | .orr l => CondsOk ts l
def CondsOk (ts : List Tab) : List Cond → Prop
  | [] => True
  | c :: l => CondOk ts c ∧ CondsOk ts l
end
/-- a record of the form of the tables -/
structure Form (ts : List Tab) (r : Rec) : Prop where
  len : r.length = ts.length
  row : ∀ (i : Nat) (t : Tab) (cs : List Cell), ts[i]? = some t → r[i]? = some (some cs) → cs.length = t.cols.length ∧ ∀ c ∈ cs, c.Ok
theorem den_ex {ts : List Tab} {r : Rec} (F : Form ts r) : ∀ {o : Opd}, OpdOk ts o → ∃ x, Denotes ts r o x ∧ x.Ok
  | .cell c, h => ⟨c, rfl, h⟩
  | .column tn cn, ⟨t, ht, e1, c, hc, e2⟩ => by
    obtain ⟨i, hi, ei⟩ := List.mem_iff_getElem.mp ht
    obtain ⟨j, hj, ej⟩ := List.mem_iff_getElem.mp hc
    have h1 : ts[i]? = some t := by rw [List.getElem?_eq_getElem hi, ei]
    have h2 : t.cols[j]? = some c := by rw [List.getElem?_eq_getElem hj, ej]
    obtain ⟨row, h3⟩ : ∃ row, r[i]? = some row := ⟨_, List.getElem?_eq_getElem (by rw [F.len]; exact hi)⟩
    cases row with
    | none => exact ⟨.nul, ⟨i, t, j, c, h1, e1, h2, e2, .inl ⟨h3, rfl⟩⟩, trivial⟩
    | some cs =>
      obtain ⟨h4, h5⟩ := F.row i t cs h1 h3
      have h6 : cs[j]? = some cs[j] := List.getElem?_eq_getElem (by omega)
      exact ⟨cs[j], ⟨i, t, j, c, h1, e1, h2, e2, .inr ⟨cs, h3, h6⟩⟩, h5 _ (List.mem_of_getElem? h6)⟩
mutual
theorem tr_ex {ts : List Tab} {r : Rec} (F : Form ts r) : ∀ c : Cond, CondOk ts c → ∃ b, Tr ts r c b
  | .tru, _ => ⟨true, rfl⟩
  | .fls, _ => ⟨false, rfl⟩
  | .exi tn, h => by
    obtain ⟨t, ht, e⟩ := h
    obtain ⟨i, hi, ei⟩ := List.mem_iff_getElem.mp ht
    exact ⟨_, i, t, r[i]'(by rw [F.len]; exact hi), by rw [List.getElem?_eq_getElem hi, ei], e, List.getElem?_eq_getElem _, rfl⟩
  | .eq a b, h => by
    obtain ⟨x, h1, h2⟩ := den_ex F h.1
    obtain ⟨y, h3, h4⟩ := den_ex F h.2
    exact ⟨_, x, y, h1, h3, h2, h4, rfl⟩
  | .ne a b, h => by
    obtain ⟨x, h1, h2⟩ := den_ex F h.1
    obtain ⟨y, h3, h4⟩ := den_ex F h.2
    exact ⟨_, x, y, h1, h3, h2, h4, rfl⟩
  | .nt c, h => by
    obtain ⟨b, hb⟩ := tr_ex F c h
    exact ⟨!b, by show Tr ts r c (!!b); rw [Bool.not_not]; exact hb⟩
  | .an l, h => trA_ex F l h
  | .orr l, h => trO_ex F l h
theorem trA_ex {ts : List Tab} {r : Rec} (F : Form ts r) : ∀ l : List Cond, CondsOk ts l → ∃ b, TrA ts r l b
  | [], _ => ⟨true, rfl⟩
  | c :: l, h => by
    obtain ⟨b1, h1⟩ := tr_ex F c h.1
    obtain ⟨b2, h2⟩ := trA_ex F l h.2
    exact ⟨_, b1, b2, h1, h2, rfl⟩
theorem trO_ex {ts : List Tab} {r : Rec} (F : Form ts r) : ∀ l : List Cond, CondsOk ts l → ∃ b, TrO ts r l b
  | [], _ => ⟨false, rfl⟩
  | c :: l, h => by
    obtain ⟨b1, h1⟩ := tr_ex F c h.1
    obtain ⟨b2, h2⟩ := trO_ex F l h.2
    exact ⟨_, b1, b2, h1, h2, rfl⟩
end
theorem conds_app {ts : List Tab} {c : Cond} (h : CondOk ts c) : ∀ {l : List Cond}, CondsOk ts l → CondsOk ts (l ++ [c])
  | [], _ => ⟨h, trivial⟩
  | _ :: l, g => ⟨g.1, conds_app h g.2⟩
theorem deps_app (c : Cond) : ∀ l : List Cond, deps (l ++ [c]) = max (deps l) (dep c)
  | [] => by simp [deps]
  | d :: l => by
    rw [List.cons_append]
    unfold deps
    rw [deps_app c l, Nat.max_assoc]
/-! ### tables on the way: the third place may be a list -/
def Tab.pb (x : Tab × Bool) : P := .tup [.str x.1.name, .bl x.1.opt, if x.2 = true then .lst (x.1.cols.map Col.p) else .tup (x.1.cols.map Col.p)]
theorem encT_pb (ts : List Tab) : encT ts = .tup ((ts.map fun t => (t, false)).map Tab.pb) := by
  unfold encT
  rw [List.map_map]
  rfl
def prP (e : Str × Str) : P := .tup [.str e.1, .str e.2]
structure Few (ts : List (Tab × Bool)) : Prop where
  col : ∀ x ∈ ts, ∀ c ∈ x.1.cols, c.Ok
  few : ts.length ≤ 200
  cols : ∀ x ∈ ts, x.1.cols.length ≤ 200
theorem ok_few {ts : List Tab} (h : TabsOk ts) : Few (ts.map fun t => (t, false)) := ⟨fun x hx => by
  obtain ⟨t, ht, rfl⟩ := List.mem_map.mp hx
  exact (h.tab t ht).cols, by rw [List.length_map]; have := h.few; omega, fun x hx => by
  obtain ⟨t, ht, rfl⟩ := List.mem_map.mp hx
  have := (h.tab t ht).few
  show t.cols.length ≤ 200
  omega⟩
theorem items_pb (x : Tab × Bool) : items (if x.2 = true then P.lst (x.1.cols.map Col.p) else P.tup (x.1.cols.map Col.p)) = some (x.1.cols.map Col.p) := by
  cases x.2 <;> rfl
set_option maxHeartbeats 2000000 in
theorem textual_v {ts : List (Tab × Bool)} {p : P} (τ : Tau) (F : Few ts) (hp : items p = some (ts.map Tab.pb)) (ho : p.isOwn = false) : ∃ l : List (Str × Str), V__law_textual [p] τ = some (.ok (.lst (l.map prP)), τ) ∧ l.length ≤ 200 * ts.length := by
  obtain ⟨pe', τ', f1, l, u2, rfl, rfl, hl⟩ := forV_all (tg := .nm 2) (fb := b__law_textual_1)
    (fun j pe τ' => ∃ (l : List (Str × Str)) (u2 : Option P), pe = [some p, some (.lst (l.map prP)), u2, none] ∧ τ' = τ ∧ l.length ≤ 200 * j)
    (ts.map Tab.pb) [some p, some (.lst []), none, none] τ ⟨[], none, rfl, rfl, by simp⟩ (by
      rintro j x pe τ' hx ⟨l, u2, rfl, rfl, hl⟩
      rw [List.getElem?_map] at hx
      cases hc : ts[j]? with
      | none => rw [hc] at hx; cases hx
      | some t =>
        rw [hc] at hx
        cases hx
        have hm := List.mem_of_getElem? hc
        have hj := (List.getElem?_eq_some_iff.mp hc).1
        have fc := F.cols t hm
        have ff := F.few
        have e := lcV_map (tg := .nm 3) (gt := vBl (vOp pEq (vOp pIx (vVar 3) (vC (.int 1))) (vC (.str (Str.ofString "text"))))) (ge := vCB qTup (vCons (vOp pIx (vVar 2) (vC (.int 0))) (vCons (vOp pIx (vVar 3) (vC (.int 0))) vNil))) (pe := [some p, some (.lst (l.map prP)), some (Tab.pb t), none]) (τ := τ') Col.p t.1.cols (fun c => c.kind.isNone) (fun c => prP (t.1.name, c.label)) (fun c hc => by
          have q := eqP_kind (F.col t hm c hc)
          have q' : eqP (kindP c.kind) (.str (Str.ofString "text")) = some c.kind.isNone := q
          exact ⟨_, by simp; rfl, by simp [Col.p, q'], fun _ => ⟨by simp [Tab.pb, Col.p, prP], rfl⟩⟩)
        have e2 : (t.1.cols.filter fun c => c.kind.isNone).map (fun c => prP (t.1.name, c.label)) = ((t.1.cols.filter fun c => c.kind.isNone).map fun c => (t.1.name, c.label)).map prP := by rw [List.map_map]; rfl
        rw [e2] at e
        have fl : (t.1.cols.filter fun c => c.kind.isNone).length ≤ t.1.cols.length := List.length_filter_le _ _
        generalize hZ : (t.1.cols.filter fun c => c.kind.isNone).map (fun c => (t.1.name, c.label)) = Z at *
        have zl : Z.length ≤ 200 := by rw [← hZ, List.length_map]; omega
        have lb := line_big
        have i1 := items_pb t
        refine ⟨_, _, τ', rfl, ?_, l ++ Z, some (Tab.pb t), rfl, rfl, by rw [List.length_append]; omega⟩
        simp only [b__law_textual_1]
        have hs : pIx (Tab.pb t) (.int 2) = some (if t.2 = true then P.lst (t.1.cols.map Col.p) else P.tup (t.1.cols.map Col.p)) := rfl
        have c1 : t.1.cols.length ≤ sizeLine := by omega
        have c2 : l.length + Z.length ≤ sizeLine := by omega
        simp [hs, i1, c1, e, pAdd, pCat, lstOf, c2])
  rw [List.length_map] at hl
  refine ⟨l, ?_, hl⟩
  simp [V__law_textual, b__law_textual, itemsC, ho, hp, f1]
theorem cut_strs (ws : List Str) (lo hi : Option Int) : ∃ Z : List Str, cutP (ws.map P.str) lo hi = Z.map P.str ∧ (∀ x ∈ Z, x ∈ ws) ∧ Z.length ≤ ws.length := by
  unfold cutP
  rw [List.length_map]
  refine ⟨(ws.drop (HT.sIx ws.length 0 lo)).take (HT.sIx ws.length ws.length hi - HT.sIx ws.length 0 lo), by rw [← List.map_drop, ← List.map_take], fun x hx => List.mem_of_mem_drop (List.mem_of_mem_take hx), ?_⟩
  rw [List.length_take, List.length_drop]
  omega
set_option maxHeartbeats 4000000 in
theorem value_words_v {ts : List Tab} (τ : Tau) (ok : TabsOk ts) : ∃ W : List Str, V__law_value_words [encT ts] τ = some (.ok (.lst (W.map P.str)), τ) ∧ W ≠ [] ∧ W.length ≤ 1000000 ∧ ∀ x ∈ W, SOk x := by
  obtain ⟨pe', τ', f1, W, u2, u3, u4, rfl, rfl, h1, h2, h3⟩ := forV_all (tg := .nm 2) (fb := b__law_value_words_1)
    (fun j pe τ' => ∃ (W : List Str) (u2 u3 u4 : Option P), pe = [some (encT ts), some (.lst (W.map P.str)), u2, u3, u4, none] ∧ τ' = τ ∧ W ≠ [] ∧ W.length ≤ 1 + 48000 * j ∧ ∀ x ∈ W, SOk x)
    (ts.map Tab.p) [some (encT ts), some (.lst [.str (Str.ofString "stranger")]), none, none, none, none] τ ⟨[Str.ofString "stranger"], none, none, none, rfl, rfl, by simp, by simp, by intro x hx; simp at hx; rw [hx]; exact sok_lit⟩ (by
      rintro j x pe τ' hx ⟨W, u2, u3, u4, rfl, rfl, h1, h2, h3⟩
      rw [List.getElem?_map] at hx
      cases hc : ts[j]? with
      | none => rw [hc] at hx; cases hx
      | some t =>
        rw [hc] at hx
        cases hx
        have hm := List.mem_of_getElem? hc
        have tk := ok.tab t hm
        have hj := (List.getElem?_eq_some_iff.mp hc).1
        have ff := ok.few
        have cf := tk.few
        obtain ⟨pe2, τ2, f2, W', v3, v4, rfl, rfl, g1, g2, g3⟩ := forV_all (tg := .nm 3) (fb := b__law_value_words_2)
          (fun k pe τ2 => ∃ (W' : List Str) (u3 u4 : Option P), pe = [some (encT ts), some (.lst (W'.map P.str)), some t.p, u3, u4, none] ∧ τ2 = τ' ∧ W' ≠ [] ∧ W'.length ≤ W.length + 2000 * k ∧ ∀ x ∈ W', SOk x)
          (t.cols.map Col.p) [some (encT ts), some (.lst (W.map P.str)), some t.p, u3, u4, none] τ' ⟨W, u3, u4, rfl, rfl, h1, by omega, h3⟩ (by
            rintro k y pe τ3 hy ⟨W', u3, u4, rfl, rfl, g1, g2, g3⟩
            rw [List.getElem?_map] at hy
            cases hd : t.cols[k]? with
            | none => rw [hd] at hy; cases hy
            | some c =>
              rw [hd] at hy
              cases hy
              have hk := (List.getElem?_eq_some_iff.mp hd).1
              have co := tk.cols c (List.mem_of_getElem? hd)
              have q : eqP (kindP c.kind) (.str (Str.ofString "text")) = some c.kind.isNone := eqP_kind co
              cases e : c.kind with
              | none =>
                rw [e] at q
                refine ⟨_, _, τ3, rfl, ?_, W', some c.p, u4, rfl, rfl, g1, by omega, g3⟩
                simp at q
                simp [b__law_value_words_2, Col.p, e, q]
              | some ws =>
                rw [e] at q
                obtain ⟨w1, w2, w3, w4⟩ := co.2 ws e
                obtain ⟨Z1, y1, y2, y3⟩ := cut_strs ws none (some 3)
                obtain ⟨Z2, z1, z2, z3⟩ := cut_strs ws (some ((ws.length : Int) - 1)) none
                have lb := line_big
                have zz : Z1.length + Z2.length ≤ sizeLine := by omega
                have ee := lcV_map (tg := .nm 5) (gt := vBl (vOp pNotIn (vVar 5) (vVar 1))) (ge := vVar 5) (pe := [some (encT ts), some (.lst (W'.map P.str)), some t.p, some c.p, some (.tup ((Z1 ++ Z2).map P.str)), none]) (τ := τ3) P.str (Z1 ++ Z2) (fun x => decide (x ∉ W')) P.str (fun x _ => ⟨_, rfl, by simp, fun _ => ⟨by simp, rfl⟩⟩)
                have fl : ((Z1 ++ Z2).filter fun x => decide (x ∉ W')).length ≤ (Z1 ++ Z2).length := List.length_filter_le _ _
                rw [List.length_append] at fl
                have fo : ∀ x ∈ (Z1 ++ Z2).filter (fun x => decide (x ∉ W')), SOk x := fun x hx => by
                  rcases List.mem_append.mp (List.mem_filter.mp hx).1 with hx | hx
                  · exact w1 x (y2 x hx)
                  · exact w1 x (z2 x hx)
                generalize (Z1 ++ Z2).filter (fun x => decide (x ∉ W')) = Y at *
                have z4 : W'.length + Y.length ≤ sizeLine := by omega
                have zl : (Z1 ++ Z2).length ≤ sizeLine := by rw [List.length_append]; exact zz
                refine ⟨_, _, τ3, rfl, ?_, W' ++ Y, some c.p, some (.tup ((Z1 ++ Z2).map P.str)), rfl, rfl, by simp [g1], by rw [List.length_append]; omega, fun x hx => ?_⟩
                · simp only [b__law_value_words_2]
                  have k1 : pIx c.p (.int 1) = some (.tup (ws.map P.str)) := by
                    show some (kindP c.kind) = _
                    rw [e]
                    rfl
                  have q' : eqP (.tup (ws.map P.str)) (.str (Str.ofString "text")) = some false := q
                  have a1 : pAdd (.tup (Z1.map P.str)) (.tup (Z2.map P.str)) = some (.tup ((Z1 ++ Z2).map P.str)) := by
                    rw [List.map_append]
                    exact if_pos (by simpa using zz)
                  have a2 : pAdd (.lst (W'.map P.str)) (.lst (Y.map P.str)) = some (.lst (W'.map P.str ++ Y.map P.str)) := if_pos (by simpa using z4)
                  generalize Z1 ++ Z2 = Z at *
                  simp [k1, q', pSl, y1, z1, a1, zl, ee, a2]
                · rcases List.mem_append.mp hx with hx | hx
                  · exact g3 x hx
                  · exact fo x hx)
        rw [List.length_map] at g2
        refine ⟨_, _, τ2, rfl, ?_, W', some t.p, v3, v4, rfl, rfl, g1, by omega, g3⟩
        simp only [b__law_value_words_1]
        have hs : pIx t.p (.int 2) = some (.tup (t.cols.map Col.p)) := rfl
        simp [hs, f2])
  rw [List.length_map] at h2
  refine ⟨W, ?_, h1, by have := ok.few; omega, h3⟩
  simp [encT] at f1
  simp [V__law_value_words, b__law_value_words, encT, f1]
end LW
namespace LW
open PySem PySem.Spec PyProof.Rows L2 RT RZ DL VL
set_option maxHeartbeats 4000000 in
theorem fitting_v {ts : List Tab} {pool W : List Str} {tx : Bool} {G : MirV} (τ : Tau) (ok : TabsOk ts) : ∃ (l : List (Str × Str)) (u6 : Option P), forV (.nm 6) (b__law_operand_1 G) (ts.map Tab.p) [some .tape, some (encT ts), some (.lst (pool.map P.str)), some (.lst (W.map P.str)), some (.bl tx), some (.lst []), none, none, none, none] τ = some (.nx, [some .tape, some (encT ts), some (.lst (pool.map P.str)), some (.lst (W.map P.str)), some (.bl tx), some (.lst (l.map prP)), u6, none, none, none], τ) ∧ l.length ≤ 480 ∧ ∀ e ∈ l, ∃ t ∈ ts, t.name = e.1 ∧ ∃ c ∈ t.cols, c.label = e.2 := by
  obtain ⟨pe', τ', f1, l, u6, rfl, rfl, hl, hm⟩ := forV_all (tg := .nm 6) (fb := b__law_operand_1 G)
    (fun j pe τ' => ∃ (l : List (Str × Str)) (u6 : Option P), pe = [some .tape, some (encT ts), some (.lst (pool.map P.str)), some (.lst (W.map P.str)), some (.bl tx), some (.lst (l.map prP)), u6, none, none, none] ∧ τ' = τ ∧ l.length ≤ 24 * j ∧ ∀ e ∈ l, ∃ t ∈ ts, t.name = e.1 ∧ ∃ c ∈ t.cols, c.label = e.2)
    (ts.map Tab.p) [some .tape, some (encT ts), some (.lst (pool.map P.str)), some (.lst (W.map P.str)), some (.bl tx), some (.lst []), none, none, none, none] τ ⟨[], none, rfl, rfl, by simp, by simp⟩ (by
      rintro j x pe τ' hx ⟨l, u6, rfl, rfl, hl, hm⟩
      rw [List.getElem?_map] at hx
      cases hc : ts[j]? with
      | none => rw [hc] at hx; cases hx
      | some t =>
        rw [hc] at hx
        cases hx
        have ht := List.mem_of_getElem? hc
        have hj := (List.getElem?_eq_some_iff.mp hc).1
        have tk := ok.tab t ht
        have fc := tk.few
        have ff := ok.few
        have e := lcV_map (tg := .nm 9) (gt := vBl (vOp pEq (vOp pEq (vOp pIx (vVar 9) (vC (.int 1))) (vC (.str (Str.ofString "text")))) (vVar 4))) (ge := vCB qTup (vCons (vOp pIx (vVar 6) (vC (.int 0))) (vCons (vOp pIx (vVar 9) (vC (.int 0))) vNil))) (pe := [some .tape, some (encT ts), some (.lst (pool.map P.str)), some (.lst (W.map P.str)), some (.bl tx), some (.lst (l.map prP)), some t.p, none, none, none]) (τ := τ') Col.p t.cols (fun c => decide (c.kind.isNone = tx)) (fun c => prP (t.name, c.label)) (fun c hc => by
          have q' : eqP (kindP c.kind) (.str (Str.ofString "text")) = some c.kind.isNone := eqP_kind (tk.cols c hc)
          exact ⟨_, by simp; rfl, by simp [Col.p, q'], fun _ => ⟨by simp [Tab.p, Col.p, prP], rfl⟩⟩)
        have e2 : (t.cols.filter fun c => decide (c.kind.isNone = tx)).map (fun c => prP (t.name, c.label)) = ((t.cols.filter fun c => decide (c.kind.isNone = tx)).map fun c => (t.name, c.label)).map prP := by rw [List.map_map]; rfl
        rw [e2] at e
        have fl : (t.cols.filter fun c => decide (c.kind.isNone = tx)).length ≤ t.cols.length := List.length_filter_le _ _
        have zm : ∀ z ∈ (t.cols.filter fun c => decide (c.kind.isNone = tx)).map (fun c => (t.name, c.label)), ∃ t ∈ ts, t.name = z.1 ∧ ∃ c ∈ t.cols, c.label = z.2 := fun z hz => by
          obtain ⟨c, hc, rfl⟩ := List.mem_map.mp hz
          exact ⟨t, ht, rfl, c, (List.mem_filter.mp hc).1, rfl⟩
        generalize hZ : (t.cols.filter fun c => decide (c.kind.isNone = tx)).map (fun c => (t.name, c.label)) = Z at *
        have zl : Z.length ≤ 24 := by rw [← hZ, List.length_map]; omega
        have lb := line_big
        refine ⟨_, _, τ', rfl, ?_, l ++ Z, some t.p, rfl, rfl, by rw [List.length_append]; omega, fun z hz => ?_⟩
        · simp only [b__law_operand_1]
          have hs : pIx t.p (.int 2) = some (.tup (t.cols.map Col.p)) := rfl
          have c1 : t.cols.length ≤ sizeLine := by omega
          have a2 : pAdd (.lst (l.map prP)) (.lst (Z.map prP)) = some (.lst (l.map prP ++ Z.map prP)) := if_pos (by simp; omega)
          simp [hs, c1, e, a2]
        · rcases List.mem_append.mp hz with hz | hz
          · exact hm z hz
          · exact zm z hz)
  rw [List.length_map] at hl
  exact ⟨l, u6, f1, by have := ok.few; omega, hm⟩
set_option maxHeartbeats 4000000 in
theorem operand_v {ts : List Tab} {pool W : List Str} (tx : Bool) (τ : Tau) (ok : TabsOk ts) (hp : pool.length ≤ 1000) (hW : W.length ≤ 1000000) (po : ∀ x ∈ pool, SOk x) (wo : ∀ x ∈ W, SOk x) :
    ∃ (o : Opd) (τ' : Tau), V__law_operand [.tape, encT ts, .lst (pool.map P.str), .lst (W.map P.str), .bl tx] τ = some (.ok o.p, τ') ∧ OpdOk ts o := by
  obtain ⟨l, u6, f1, hl, hm⟩ := fitting_v (pool := pool) (W := W) (tx := tx) (G := V__law_draw) τ ok
  obtain ⟨v, τ1, d1, hv⟩ := draw_lit τ 6
  simp [encT] at f1
  by_cases cA : 1 < v ∧ l ≠ []
  · have hpos := List.length_pos_iff.mpr cA.2
    obtain ⟨i, τ2, d2, hi⟩ := draw_v (m := l.length) τ1 hpos (by simp only [Nat.reducePow]; omega)
    have h3 := at_nth (f := prP) hi
    have hmem := List.getElem_mem hi
    generalize l[i] = e at *
    have ie : (l.map prP).isEmpty = false := by simp [cA.2]
    have iv : (1 : Int) < v := by omega
    refine ⟨.column e.1 e.2, τ2, ?_, hm e hmem⟩
    have h3' : atI (l.map prP) (i : Int) = some (.tup [.str e.1, .str e.2]) := h3
    simp [V__law_operand, b__law_operand, encT, f1, d1, iv, cA.1, cA.2, d2, h3', Opd.p]
  · have nA : ¬ ((1 : Int) < v ∧ (l.map prP).isEmpty = false) := fun h => cA ⟨by omega, by rintro rfl; simp at h⟩
    by_cases cB : 0 < v ∧ tx = true ∧ pool ≠ []
    · obtain ⟨c1, rfl, c3⟩ := cB
      have hpos := List.length_pos_iff.mpr c3
      obtain ⟨i, τ2, d2, hi⟩ := draw_v (m := pool.length) τ1 hpos (by simp only [Nat.reducePow]; omega)
      have h3 := at_nth (f := P.str) hi
      have hmem := List.getElem_mem hi
      generalize pool[i] = e at *
      have iv : (0 : Int) < v := by omega
      refine ⟨.cell (.txt e), τ2, ?_, po e hmem⟩
      by_cases a1 : 1 < v
      · have l0 : l = [] := Classical.byContradiction fun h => cA ⟨a1, h⟩
        subst l0
        have iv1 : (1 : Int) < v := by omega
        simp at f1
        simp [V__law_operand, b__law_operand, encT, f1, d1, iv1, a1, iv, c1, c3, d2, h3, Opd.p, encC]
      · have iv1 : ¬ (1 : Int) < v := by omega
        simp [V__law_operand, b__law_operand, encT, f1, d1, iv1, a1, iv, c1, c3, d2, h3, Opd.p, encC]
    · by_cases cC : 0 < v ∧ W ≠ [] ∧ tx = false
      · obtain ⟨c1, c3, rfl⟩ := cC
        have hpos := List.length_pos_iff.mpr c3
        obtain ⟨i, τ2, d2, hi⟩ := draw_v (m := W.length) τ1 hpos (by simp only [Nat.reducePow]; omega)
        have h3 := at_nth (f := P.str) hi
        have hmem := List.getElem_mem hi
        generalize W[i] = e at *
        have iv : (0 : Int) < v := by omega
        refine ⟨.cell (.val e), τ2, ?_, wo e hmem⟩
        by_cases a1 : 1 < v
        · have l0 : l = [] := Classical.byContradiction fun h => cA ⟨a1, h⟩
          subst l0
          have iv1 : (1 : Int) < v := by omega
          simp at f1
          simp [V__law_operand, b__law_operand, encT, f1, d1, iv1, a1, iv, c1, c3, d2, h3, Opd.p, encC]
        · have iv1 : ¬ (1 : Int) < v := by omega
          simp [V__law_operand, b__law_operand, encT, f1, d1, iv1, a1, iv, c1, c3, d2, h3, Opd.p, encC]
      · refine ⟨.cell .nul, τ1, ?_, trivial⟩
        by_cases c0 : 0 < v
        · have iv : (0 : Int) < v := by omega
          have pB : tx = true → pool = [] := fun h => Classical.byContradiction fun q => cB ⟨c0, h, q⟩
          have pC : tx = false → W = [] := fun h => Classical.byContradiction fun q => cC ⟨c0, q, h⟩
          have hl1 : 1 < v → l = [] := fun h => Classical.byContradiction fun q => cA ⟨h, q⟩
          cases tx with
          | true =>
            have p0 := pB rfl
            subst p0
            by_cases a1 : 1 < v
            · have l0 := hl1 a1
              subst l0
              have iv1 : (1 : Int) < v := by omega
              simp at f1
              simp [V__law_operand, b__law_operand, encT, f1, d1, iv1, a1, iv, c0, Opd.p, encC]
            · have iv1 : ¬ (1 : Int) < v := by omega
              simp at f1
              simp [V__law_operand, b__law_operand, encT, f1, d1, iv1, a1, iv, c0, Opd.p, encC]
          | false =>
            have p0 := pC rfl
            subst p0
            by_cases a1 : 1 < v
            · have l0 := hl1 a1
              subst l0
              have iv1 : (1 : Int) < v := by omega
              simp at f1
              simp [V__law_operand, b__law_operand, encT, f1, d1, iv1, a1, iv, c0, Opd.p, encC]
            · have iv1 : ¬ (1 : Int) < v := by omega
              simp at f1
              simp [V__law_operand, b__law_operand, encT, f1, d1, iv1, a1, iv, c0, Opd.p, encC]
        · have iv : ¬ (0 : Int) < v := by omega
          have iv1 : ¬ (1 : Int) < v := by omega
          have a1 : ¬ 1 < v := by omega
          simp [V__law_operand, b__law_operand, encT, f1, d1, iv1, a1, iv, c0, Opd.p, encC]
end LW
namespace LW
open PySem PySem.Spec PyProof.Rows L2 RT RZ DL VL
def szN (m : Nat) : P := .int m
theorem Vn__law_condition_succ (n : Nat) : Vn__law_condition (n + 1) = runV 5 11 (b__law_condition V__law_operand V__law_draw V__law_textual (Vn__law_condition n)) := rfl
/-- what a condition is drawn from -/
structure Src (ts : List Tab) (pool W : List Str) : Prop where
  ok : TabsOk ts
  pl : pool.length ≤ 1000
  wl : W.length ≤ 1000000
  po : ∀ x ∈ pool, SOk x
  wo : ∀ x ∈ W, SOk x
theorem textual_tabs {ts : List Tab} (τ : Tau) (ok : TabsOk ts) : ∃ l : List (Str × Str), V__law_textual [encT ts] τ = some (.ok (.lst (l.map prP)), τ) ∧ l.length ≤ 200 * ts.length := by
  obtain ⟨l, h1, h2⟩ := textual_v (ts := ts.map fun t => (t, false)) (p := encT ts) τ (ok_few ok) (by rw [encT_pb]; rfl) rfl
  rw [List.length_map] at h2
  exact ⟨l, h1, h2⟩
set_option maxHeartbeats 4000000 in
/-- a condition without parts -/
theorem cond_leaf {ts : List Tab} {pool W : List Str} (S : Src ts pool W) (n deep v : Nat) (τ τ1 : Tau) (d1 : V__law_draw [.tape, .int 10] τ = some (.ok (.int v), τ1)) (hl : ¬ (0 < deep ∧ v < 4)) :
    ∃ (c : Cond) (τ' : Tau), Vn__law_condition (n + 1) [.tape, encT ts, .lst (pool.map P.str), .lst (W.map P.str), .int deep] τ = some (.ok c.p, τ') ∧ dep c = 0 ∧ CondOk ts c := by
  rw [Vn__law_condition_succ]
  have n1 : ¬ (0 < deep ∧ v = 0) := fun h => hl ⟨h.1, by omega⟩
  by_cases c4 : v = 4
  · subst c4
    have hpos := List.length_pos_iff.mpr S.ok.ne
    obtain ⟨i, τ2, d2, hi⟩ := draw_v (m := ts.length) τ1 hpos (by have := S.ok.few; simp only [Nat.reducePow]; omega)
    obtain ⟨k, τ3, d3, hk⟩ := draw_lit τ2 3
    have h3 := at_tab (List.getElem?_eq_getElem hi)
    have hmem := List.getElem_mem hi
    generalize ts[i] = t at *
    simp at d1
    have key : ∃ c : Cond, atI [P.tup [.str (Str.ofString "true")], .tup [.str (Str.ofString "false")], .tup [.str (Str.ofString "exists"), .str t.name]] (k : Int) = some c.p ∧ dep c = 0 ∧ CondOk ts c := by
      have hk3 : k = 0 ∨ k = 1 ∨ k = 2 := by omega
      rcases hk3 with rfl | rfl | rfl
      · exact ⟨.tru, rfl, rfl, trivial⟩
      · exact ⟨.fls, rfl, rfl, trivial⟩
      · exact ⟨.exi t.name, rfl, rfl, t, hmem, rfl⟩
    obtain ⟨c, e1, e2, e3⟩ := key
    refine ⟨c, τ3, ?_, e2, e3⟩
    by_cases c0 : 0 < deep
    · have c0' : (0 : Int) < deep := by omega
      simp [b__law_condition, encT, d1, c0, c0', d2, h3, d3, e1]
    · have c0' : ¬ (0 : Int) < deep := by omega
      simp [b__law_condition, encT, d1, c0, c0', d2, h3, d3, e1]
  · have v4 : ¬ (v : Int) = 4 := by omega
    obtain ⟨w, τ2, d2, -⟩ := draw_lit τ1 3
    obtain ⟨l, ht, -⟩ := textual_tabs τ2 S.ok
    obtain ⟨tx, htx⟩ : ∃ tx : Bool, tx = if l = [] then false else decide ((0 : Int) < w) := ⟨_, rfl⟩
    obtain ⟨a, τ3, o1, a1⟩ := operand_v tx τ2 S.ok S.pl S.wl S.po S.wo
    obtain ⟨k, τ4, d4, hk⟩ := draw_lit τ3 2
    obtain ⟨b, τ5, o2, b1⟩ := operand_v tx τ4 S.ok S.pl S.wl S.po S.wo
    have key : ∃ c : Cond, c.p = .tup [if k = 0 then .str (Str.ofString "=") else .str (Str.ofString "!="), a.p, b.p] ∧ dep c = 0 ∧ CondOk ts c := by
      by_cases k0 : k = 0
      · exact ⟨.eq a b, by rw [if_pos k0]; rfl, rfl, a1, b1⟩
      · exact ⟨.ne a b, by rw [if_neg k0]; rfl, rfl, a1, b1⟩
    obtain ⟨c, e1, e2, e3⟩ := key
    have ek : atI [P.str (Str.ofString "="), P.str (Str.ofString "!=")] (k : Int) = some (if k = 0 then .str (Str.ofString "=") else .str (Str.ofString "!=")) := by
      have hk2 : k = 0 ∨ k = 1 := by omega
      rcases hk2 with rfl | rfl
      · rfl
      · rfl
    have ow : ∀ z : P, z = (if k = 0 then P.str (Str.ofString "=") else .str (Str.ofString "!=")) → z.isOwn = false := fun z hz => by
      rw [hz]
      split <;> rfl
    refine ⟨c, τ5, ?_, e2, e3⟩
    rw [e1]
    generalize hz : (if k = 0 then P.str (Str.ofString "=") else .str (Str.ofString "!=")) = z at *
    have owz := ow z rfl
    by_cases lz : l = []
    · subst lz
      rw [if_pos rfl] at htx
      subst htx
      simp at ht
      by_cases c0 : 0 < deep
      · have c0' : (0 : Int) < deep := by omega
        have h4 : ¬ v < 4 := fun h => hl ⟨c0, h⟩
        have h4' : ¬ (v : Int) < 4 := by omega
        have h0 : ¬ v = 0 := by omega
        simp [b__law_condition, d1, c0, c0', c4, v4, h4, h4', h0, d2, ht, o1, d4, ek, o2, owz]
      · have c0' : ¬ (0 : Int) < deep := by omega
        simp [b__law_condition, d1, c0, c0', c4, v4, d2, ht, o1, d4, ek, o2, owz]
    · rw [if_neg lz] at htx
      by_cases c0 : 0 < deep
      · have c0' : (0 : Int) < deep := by omega
        have h4 : ¬ v < 4 := fun h => hl ⟨c0, h⟩
        have h4' : ¬ (v : Int) < 4 := by omega
        have h0 : ¬ v = 0 := by omega
        rw [htx] at o1 o2
        simp at o1 o2
        simp [b__law_condition, d1, c0, c0', c4, v4, h4, h4', h0, d2, ht, lz, o1, d4, ek, o2, owz]
      · have c0' : ¬ (0 : Int) < deep := by omega
        rw [htx] at o1 o2
        simp at o1 o2
        simp [b__law_condition, d1, c0, c0', c4, v4, d2, ht, lz, o1, d4, ek, o2, owz]
set_option maxHeartbeats 4000000 in
theorem condition_v {ts : List Tab} {pool W : List Str} (S : Src ts pool W) : ∀ (n deep : Nat) (τ : Tau), deep ≤ n → ∃ (c : Cond) (τ' : Tau), Vn__law_condition (n + 1) [.tape, encT ts, .lst (pool.map P.str), .lst (W.map P.str), .int deep] τ = some (.ok c.p, τ') ∧ dep c ≤ deep ∧ CondOk ts c := by
  intro n
  induction n with
  | zero =>
    intro deep τ hd
    obtain ⟨v, τ1, d1, hv⟩ := draw_lit τ 10
    obtain ⟨c, τ', h1, h2, h3⟩ := cond_leaf S 0 deep v τ τ1 d1 (by omega)
    exact ⟨c, τ', h1, by omega, h3⟩
  | succ n ih =>
    intro deep τ hd
    obtain ⟨v, τ1, d1, hv⟩ := draw_lit τ 10
    by_cases hl : 0 < deep ∧ v < 4
    · obtain ⟨c0, v4⟩ := hl
      obtain ⟨dp, rfl⟩ : ∃ dp, deep = dp + 1 := ⟨deep - 1, by omega⟩
      have c0' : (0 : Int) < ((dp + 1 : Nat) : Int) := by omega
      have e1 : ((dp + 1 : Nat) : Int) - 1 = dp := by omega
      rw [Vn__law_condition_succ]
      by_cases v0 : v = 0
      · subst v0
        obtain ⟨c, τ', h1, h2, h3⟩ := ih dp τ1 (by omega)
        refine ⟨.nt c, τ', ?_, by show dep c + 1 ≤ dp + 1; omega, h3⟩
        generalize hN : Vn__law_condition (n + 1) = N at *
        have c0'' : (0 : Int) < (dp : Int) + 1 := by omega
        have e1' : (dp : Int) + 1 - 1 = dp := by omega
        simp at d1
        simp [b__law_condition, d1, c0'', e1', h1, Cond.p]
      · have v0' : ¬ (v : Int) = 0 := by omega
        have v4' : (v : Int) < 4 := by omega
        -- how many parts
        obtain ⟨m, τ2, hm, hM⟩ : ∃ (m : Nat) (τ2 : Tau), m ≤ 6 ∧ ∀ pe : PE, pe[0]? = some (some .tape) → pe[4]? = some (some (.int ((dp + 1 : Nat) : Int))) → vOp pIx (vCB qLst (vCons (vC (.int 2)) (vCons (vC (.int 2)) (vCons (vC (.int 2)) (vCons (vC (.int 3)) (vCons (vC (.int 2)) (vCons (vC (.int 6)) vNil))))))) (vCall V__law_draw (vCons (vVar 0) (vCons (vOp pIx (vCB qLst (vCons (vC (.int 4)) (vCons (vC (.int 6)) vNil))) (vCB qInt (vCons (vOp pEq (vVar 4) (vC (.int 1))) vNil))) vNil))) pe τ1 = some (.ok (.int m), τ2) := by
          have g : ∀ k : Nat, k < 6 → ∃ m : Nat, m ≤ 6 ∧ atI [P.int 2, P.int 2, P.int 2, P.int 3, P.int 2, P.int 6] (k : Int) = some (.int m) := fun k hk => by
            obtain ⟨L, hL⟩ : ∃ L : List Nat, L = [2, 2, 2, 3, 2, 6] := ⟨_, rfl⟩
            obtain ⟨m, hm, hmm⟩ := get12 (l := L) (i := (k : Int)) (by omega) (by rw [hL]; simp; omega)
            have hml : ∀ y ∈ L, y ≤ 6 := by rw [hL]; decide
            have hat := at_of (f := szN) hm
            rw [hL] at hat
            exact ⟨m, hml m hmm, hat⟩
          by_cases e : dp = 0
          · obtain ⟨k, τ2, d2, hk⟩ := draw_lit τ1 6
            obtain ⟨m, m1, m2⟩ := g k (by omega)
            have m2' : atI [P.int 2, P.int 2, P.int 2, P.int 3, P.int 2, P.int 6] (k : Int) = some (.int m) := m2
            subst e
            exact ⟨m, τ2, m1, fun pe p0 p4 => by simp at p4; simp [p0, p4, d2, m2']⟩
          · obtain ⟨k, τ2, d2, hk⟩ := draw_lit τ1 4
            obtain ⟨m, m1, m2⟩ := g k (by omega)
            have m2' : atI [P.int 2, P.int 2, P.int 2, P.int 3, P.int 2, P.int 6] (k : Int) = some (.int m) := m2
            have e' : ¬ ((dp : Int) + 1 = 1) := by omega
            exact ⟨m, τ2, m1, fun pe p0 p4 => by simp at p4; simp [p0, p4, e, e', d2, m2']⟩
        obtain ⟨pe', τ', f1, l, u8, rfl, hlen, hdep, hok⟩ := forV_all (tg := .nm 8) (fb := b__law_condition_1 V__law_operand V__law_draw V__law_textual (Vn__law_condition (n + 1)))
          (fun j pe τ' => ∃ (l : List Cond) (u8 : Option P), pe = [some .tape, some (encT ts), some (.lst (pool.map P.str)), some (.lst (W.map P.str)), some (.int ((dp + 1 : Nat) : Int)), some (.int v), some (.own (l.map Cond.p)), some (.int m), u8, none, none] ∧ l.length = j ∧ deps l ≤ dp ∧ CondsOk ts l)
          (rangeP 0 m) [some .tape, some (encT ts), some (.lst (pool.map P.str)), some (.lst (W.map P.str)), some (.int ((dp + 1 : Nat) : Int)), some (.int v), some (.own []), some (.int m), none, none, none] τ2 ⟨[], none, rfl, rfl, Nat.zero_le _, trivial⟩ (by
            rintro j x pe τ' hx ⟨l, u8, rfl, g1, g2, g3⟩
            obtain ⟨hj, rfl⟩ := rangeP_at hx
            obtain ⟨c, τ3, h1, h2, h3⟩ := ih dp τ' (by omega)
            have lz : l.length < sizeLine := by have := line_big; omega
            refine ⟨_, _, τ3, rfl, ?_, l ++ [c], some (.int j), rfl, by simp [g1], by rw [deps_app]; omega, conds_app h3 g3⟩
            generalize hN : Vn__law_condition (n + 1) = N at *
            have e1' : (dp : Int) + 1 - 1 = dp := by omega
            simp [b__law_condition_1, e1', h1, lz])
        have rg : RgB (m : Int) := .of (by omega)
        have key : ∃ c : Cond, c.p = .tup [if (v : Int) % 2 = 0 then .str (Str.ofString "and") else .str (Str.ofString "or"), .tup (l.map Cond.p)] ∧ dep c ≤ dp + 1 ∧ CondOk ts c := by
          by_cases k0 : (v : Int) % 2 = 0
          · exact ⟨.an l, by rw [if_pos k0, ← Cond.ps_map]; rfl, by show deps l + 1 ≤ dp + 1; omega, hok⟩
          · exact ⟨.orr l, by rw [if_neg k0, ← Cond.ps_map]; rfl, by show deps l + 1 ≤ dp + 1; omega, hok⟩
        obtain ⟨c, e3, e4, e5⟩ := key
        have ek : atI [P.str (Str.ofString "and"), P.str (Str.ofString "or")] ((v : Int) % 2) = some (if (v : Int) % 2 = 0 then .str (Str.ofString "and") else .str (Str.ofString "or")) := by
          have hk2 : (v : Int) % 2 = 0 ∨ (v : Int) % 2 = 1 := by omega
          rcases hk2 with h | h <;> rw [h] <;> rfl
        have ow : (if (v : Int) % 2 = 0 then P.str (Str.ofString "and") else .str (Str.ofString "or")).isOwn = false := by split <;> rfl
        refine ⟨c, τ', ?_, e4, e5⟩
        rw [e3]
        generalize (if (v : Int) % 2 = 0 then P.str (Str.ofString "and") else .str (Str.ofString "or")) = z at *
        have s7 : vAsg (.nm 7) (vOp pIx (vCB qLst (vCons (vC (.int 2)) (vCons (vC (.int 2)) (vCons (vC (.int 2)) (vCons (vC (.int 3)) (vCons (vC (.int 2)) (vCons (vC (.int 6)) vNil))))))) (vCall V__law_draw (vCons (vVar 0) (vCons (vOp pIx (vCB qLst (vCons (vC (.int 4)) (vCons (vC (.int 6)) vNil))) (vCB qInt (vCons (vOp pEq (vVar 4) (vC (.int 1))) vNil))) vNil)))) [some .tape, some (encT ts), some (.lst (pool.map P.str)), some (.lst (W.map P.str)), some (.int ((dp + 1 : Nat) : Int)), some (.int v), some (.own []), none, none, none, none] τ1 = some (.nx, [some .tape, some (encT ts), some (.lst (pool.map P.str)), some (.lst (W.map P.str)), some (.int ((dp + 1 : Nat) : Int)), some (.int v), some (.own []), some (.int m), none, none, none], τ2) := by
          unfold vAsg
          rw [hM _ rfl rfl]
          rfl
        simp only [b__law_condition]
        generalize (vAsg (.nm 7) (vOp pIx (vCB qLst (vCons (vC (.int 2)) (vCons (vC (.int 2)) (vCons (vC (.int 2)) (vCons (vC (.int 3)) (vCons (vC (.int 2)) (vCons (vC (.int 6)) vNil))))))) (vCall V__law_draw (vCons (vVar 0) (vCons (vOp pIx (vCB qLst (vCons (vC (.int 4)) (vCons (vC (.int 6)) vNil))) (vCB qInt (vCons (vOp pEq (vVar 4) (vC (.int 1))) vNil))) vNil))))) = A7 at s7 ⊢
        generalize b__law_condition_1 V__law_operand V__law_draw V__law_textual (Vn__law_condition (n + 1)) = B1 at f1 ⊢
        have c0'' : (0 : Int) < (dp : Int) + 1 := by omega
        simp at s7 f1
        simp [d1, c0'', v0, v0', v4, v4', s7, rg, f1, ek, ow]
    · obtain ⟨c, τ', h1, h2, h3⟩ := cond_leaf S (n + 1) deep v τ τ1 d1 hl
      exact ⟨c, τ', h1, by omega, h3⟩
end LW
namespace LW
open PySem PySem.Spec PyProof.Rows L2 RT RZ DL VL
set_option maxHeartbeats 2000000 in
theorem deepened_v {ts : List Tab} {c : Cond} (τ : Tau) {m : Nat} (hm : m ≤ 500) (hc : CondOk ts c) :
    ∃ (c' : Cond) (τ' : Tau), V__law_deepened [.tape, c.p, .int m] τ = some (.ok c'.p, τ') ∧ dep c' ≤ dep c + m ∧ CondOk ts c' := by
  obtain ⟨pe', τ', f1, c', u3, u4, rfl, g1, g2⟩ := forV_all (tg := .nm 3) (fb := b__law_deepened_1 V__law_draw)
    (fun j pe τ' => ∃ (c' : Cond) (u3 u4 : Option P), pe = [some .tape, some c'.p, some (.int m), u3, u4] ∧ dep c' ≤ dep c + j ∧ CondOk ts c')
    (rangeP 0 m) [some .tape, some c.p, some (.int m), none, none] τ ⟨c, none, none, rfl, Nat.le_refl _, hc⟩ (by
      rintro j x pe τ' hx ⟨d, u3, u4, rfl, g1, g2⟩
      obtain ⟨hj, rfl⟩ := rangeP_at hx
      obtain ⟨k, τ1, d1, hk⟩ := draw_lit τ' 3
      have hk3 : k = 0 ∨ k = 1 ∨ k = 2 := by omega
      rcases hk3 with rfl | rfl | rfl
      · simp at d1
        exact ⟨_, _, τ1, rfl, by simp [b__law_deepened_1, d1]; exact ⟨rfl, rfl, rfl⟩, .nt d, _, _, rfl, by show dep d + 1 ≤ _; omega, g2⟩
      · simp at d1
        exact ⟨_, _, τ1, rfl, by simp [b__law_deepened_1, d1]; exact ⟨rfl, rfl, rfl⟩, .an [.tru, d], _, _, rfl, by show max 0 (max (dep d) 0) + 1 ≤ _; omega, trivial, g2, trivial⟩
      · simp at d1
        exact ⟨_, _, τ1, rfl, by simp [b__law_deepened_1, d1]; exact ⟨rfl, rfl, rfl⟩, .orr [d, .fls], _, _, rfl, by show max (dep d) (max 0 0) + 1 ≤ _; omega, g2, trivial, trivial⟩)
  rw [rangeP_len] at g1
  have r : RgB (m : Int) := .of (by omega)
  exact ⟨c', τ', by simp [V__law_deepened, b__law_deepened, r, f1], g1, g2⟩
end LW
namespace LW
open PySem PySem.Spec PyProof.Rows L2 RT RZ DL VL
/-! ### records of the tables' form -/
def cellsOf (texts : List Str) : Option (List Str) → List Cell
  | none => texts.map Cell.txt ++ [.nul]
  | some ws => ws.map Cell.val ++ [.val (Str.ofString "unknown_value"), .nul]
theorem cellsOf_ok {texts : List Str} (ht : ∀ x ∈ texts, SOk x) {c : Col} (hc : c.Ok) : ∀ x ∈ cellsOf texts c.kind, x.Ok := by
  intro x hx
  cases e : c.kind with
  | none =>
    rw [e] at hx
    rcases List.mem_append.mp hx with h | h
    · obtain ⟨y, hy, rfl⟩ := List.mem_map.mp h
      exact ht y hy
    · simp at h; rw [h]; exact trivial
  | some ws =>
    rw [e] at hx
    rcases List.mem_append.mp hx with h | h
    · obtain ⟨y, hy, rfl⟩ := List.mem_map.mp h
      exact (hc.2 ws e).1 y hy
    · simp at h
      rcases h with rfl | rfl
      · exact sok_lit
      · exact trivial
theorem cellsOf_len {texts : List Str} {c : Col} (hc : c.Ok) : 0 < (cellsOf texts c.kind).length ∧ (cellsOf texts c.kind).length ≤ texts.length + 1002 := by
  cases e : c.kind with
  | none => simp [cellsOf]
  | some ws => have := (hc.2 ws e).2.2.2; simp [cellsOf]; omega
set_option maxHeartbeats 2000000 in
theorem shape_cell {ts : List Tab} {texts : List Str} {c : Col} (hc : c.Ok) (tl : texts.length ≤ 1000) (rows : P) (t : P) (cs : List Cell) (u7 u8 : Option P) (τ : Tau) (hl : cs.length ≤ 24) :
    ∃ (x : Cell) (u7' u8' : Option P) (τ' : Tau), b__law_shape_2 V__law_draw [some .tape, some (encT ts), some (.lst (texts.map P.str)), some rows, some t, some (.own (cs.map encC)), some c.p, u7, u8] τ = some (.nx, [some .tape, some (encT ts), some (.lst (texts.map P.str)), some rows, some t, some (.own ((cs ++ [x]).map encC)), some c.p, u7', u8'], τ') ∧ x ∈ cellsOf texts c.kind := by
  have q := eqP_kind hc
  have q' : eqP (kindP c.kind) (.str (Str.ofString "text")) = some c.kind.isNone := q
  have lb := line_big
  have tl' : texts.length + 1 ≤ sizeLine := by omega
  have tl'' : texts.length ≤ sizeLine := by omega
  have cl : cs.length < sizeLine := by omega
  obtain ⟨l1, l2⟩ := cellsOf_len (texts := texts) hc
  obtain ⟨i, τ1, d1, hi⟩ := draw_v (m := (cellsOf texts c.kind).length) τ l1 (by simp only [Nat.reducePow]; omega)
  have hx := at_map (f := encC) (i := i) (List.getElem?_eq_getElem (l := cellsOf texts c.kind) hi)
  have hm := List.getElem_mem hi
  generalize (cellsOf texts c.kind)[i] = x at *
  have ca : cs.length < sizeLine := cl
  cases ek : c.kind with
  | none =>
    rw [ek] at q' hx hm d1
    have e1 : (cellsOf texts none).map encC = texts.map P.str ++ [.non] := by simp [cellsOf, encC, Function.comp_def]
    rw [e1] at hx
    have e2 : (cellsOf texts none).length = texts.length + 1 := by simp [cellsOf]
    rw [e2] at d1
    refine ⟨x, some (.lst (texts.map P.str ++ [.non])), u8, τ1, ?_, hm⟩
    simp at d1 q'
    simp [b__law_shape_2, Col.p, ek, q', pNe, pAdd, pCat, lstOf, tl', tl'', d1, hx, ca]
  | some ws =>
    rw [ek] at q' hx hm d1
    have hw := (hc.2 ws ek).2.2.2
    have e1 : (cellsOf texts (some ws)).map encC = (ws.map fun w => P.tup [.str w]) ++ [.tup [.str (Str.ofString "unknown_value")], .non] := by simp [cellsOf, encC, Function.comp_def]
    rw [e1] at hx
    have e2 : (cellsOf texts (some ws)).length = ws.length + 2 := by simp [cellsOf]
    rw [e2] at d1
    have w1 : ws.length ≤ sizeLine := by omega
    have w2 : ws.length + 2 ≤ sizeLine := by omega
    have e := fun pe τ => lcV_map (tg := .nm 8) (gt := vTrue) (ge := vCB qTup (vCons (vVar 8) vNil)) (pe := [some .tape, some (encT ts), some (.lst (texts.map P.str)), some rows, some t, some (.own (cs.map encC)), some (.tup [.str c.label, .tup (ws.map P.str), .bl c.null]), pe, none]) (τ := τ) P.str ws (fun _ => true) (fun w => P.tup [.str w]) (fun w hw => ⟨_, rfl, rfl, fun _ => ⟨by simp, rfl⟩⟩)
    refine ⟨x, some (.lst ((ws.map fun w => P.tup [.str w]) ++ [.tup [.str (Str.ofString "unknown_value")], .non])), u8, τ1, ?_, hm⟩
    have q'' : eqP (P.tup (ws.map P.str)) (.str (Str.ofString "text")) = some false := q'
    have ef : ws.filter (fun _ => true) = ws := List.filter_eq_self.mpr (fun _ _ => rfl)
    simp only [ef] at e
    simp at d1 e
    simp [b__law_shape_2, Col.p, ek, kindP, q'', pNe, pAdd, pCat, lstOf, tl', tl'', e, w1, w2, d1, hx, ca]
theorem cellsOf_mem {texts : List Str} (ht : ∀ x ∈ texts, SOk x) {c : Col} (hc : c.Ok) {x : Cell} (h : x ∈ cellsOf texts c.kind) : x.Ok := cellsOf_ok ht hc x h
theorem encRow_list (cs : List Cell) : encRow (some cs) = .tup (cs.map encC) := rfl
set_option maxHeartbeats 4000000 in
theorem shape_row {ts : List Tab} {texts : List Str} {t : Tab} (ht : t.Ok) (to : ∀ x ∈ texts, SOk x) (tl : texts.length ≤ 1000) (r : Rec) (hr : r.length ≤ 20) (u5 u6 u7 u8 : Option P) (τ : Tau) :
    ∃ (x : Option (List Cell)) (u5' u6' u7' u8' : Option P) (τ' : Tau), b__law_shape_1 V__law_draw [some .tape, some (encT ts), some (.lst (texts.map P.str)), some (.own (r.map encRow)), some t.p, u5, u6, u7, u8] τ = some (.nx, [some .tape, some (encT ts), some (.lst (texts.map P.str)), some (.own ((r ++ [x]).map encRow)), some t.p, u5', u6', u7', u8'], τ') ∧ ∀ cs, x = some cs → cs.length = t.cols.length ∧ ∀ c ∈ cs, c.Ok := by
  obtain ⟨pe', τ1, f1, cs, u6', u7', u8', rfl, g1, g2⟩ := forV_all (tg := .nm 6) (fb := b__law_shape_2 V__law_draw)
    (fun j pe τ' => ∃ (cs : List Cell) (u6 u7 u8 : Option P), pe = [some .tape, some (encT ts), some (.lst (texts.map P.str)), some (.own (r.map encRow)), some t.p, some (.own (cs.map encC)), u6, u7, u8] ∧ cs.length = j ∧ ∀ c ∈ cs, c.Ok)
    (t.cols.map Col.p) [some .tape, some (encT ts), some (.lst (texts.map P.str)), some (.own (r.map encRow)), some t.p, some (.own []), u6, u7, u8] τ ⟨[], _, _, _, rfl, rfl, by simp⟩ (by
      rintro j x pe τ' hx ⟨cs, u6, u7, u8, rfl, g1, g2⟩
      rw [List.getElem?_map] at hx
      cases hc : t.cols[j]? with
      | none => rw [hc] at hx; cases hx
      | some c =>
        rw [hc] at hx
        cases hx
        have hm := List.mem_of_getElem? hc
        have hj := (List.getElem?_eq_some_iff.mp hc).1
        have ff := ht.few
        obtain ⟨x, v7, v8, τ2, h1, h2⟩ := shape_cell (ts := ts) (texts := texts) (ht.cols c hm) tl (.own (r.map encRow)) t.p cs u7 u8 τ' (by omega)
        refine ⟨_, _, τ2, rfl, h1, cs ++ [x], some c.p, v7, v8, rfl, by simp [g1], fun z hz => ?_⟩
        rcases List.mem_append.mp hz with hz | hz
        · exact g2 z hz
        · simp at hz
          rw [hz]
          exact cellsOf_mem to (ht.cols c hm) h2)
  rw [List.length_map] at g1
  obtain ⟨k, τ2, d2, hk⟩ := draw_lit τ1 4
  have lb := line_big
  have rl : r.length < sizeLine := by omega
  have e2 : pIx t.p (.int 2) = some (.tup (t.cols.map Col.p)) := rfl
  have ff := ht.few
  have cl : cs.length ≤ sizeLine := by omega
  by_cases k0 : k = 0
  · subst k0
    simp at d2
    refine ⟨none, some (.own (cs.map encC)), u6', u7', u8', τ2, ?_, fun _ h => by cases h⟩
    simp [b__law_shape_1, e2, f1, d2, rl]
    try rfl
  · have k0' : ¬ (k : Int) = 0 := by omega
    refine ⟨some cs, some (.own (cs.map encC)), u6', u7', u8', τ2, ?_, fun _ h => by cases h; exact ⟨g1, g2⟩⟩
    simp [b__law_shape_1, e2, f1, d2, k0, k0', rl, cl]
    try rfl
end LW
namespace LW
open PySem PySem.Spec PyProof.Rows L2 RT RZ DL VL
set_option maxHeartbeats 4000000 in
theorem shape_v {ts : List Tab} {texts : List Str} (τ : Tau) (ok : TabsOk ts) (to : ∀ x ∈ texts, SOk x) (tl : texts.length ≤ 1000) :
    ∃ (r : Rec) (τ' : Tau), V__law_shape [.tape, encT ts, .lst (texts.map P.str)] τ = some (.ok (encR r), τ') ∧ Form ts r := by
  obtain ⟨pe', τ1, f1, r, u4, u5, u6, u7, u8, rfl, g1, g2⟩ := forV_all (tg := .nm 4) (fb := b__law_shape_1 V__law_draw)
    (fun j pe τ' => ∃ (r : Rec) (u4 u5 u6 u7 u8 : Option P), pe = [some .tape, some (encT ts), some (.lst (texts.map P.str)), some (.own (r.map encRow)), u4, u5, u6, u7, u8] ∧ r.length = j ∧ ∀ (i : Nat) (t : Tab) (cs : List Cell), ts[i]? = some t → r[i]? = some (some cs) → cs.length = t.cols.length ∧ ∀ c ∈ cs, c.Ok)
    (ts.map Tab.p) [some .tape, some (encT ts), some (.lst (texts.map P.str)), some (.own []), none, none, none, none, none] τ ⟨[], none, none, none, none, none, rfl, rfl, by simp⟩ (by
      rintro j x pe τ' hx ⟨r, u4, u5, u6, u7, u8, rfl, g1, g2⟩
      rw [List.getElem?_map] at hx
      cases hc : ts[j]? with
      | none => rw [hc] at hx; cases hx
      | some t =>
        rw [hc] at hx
        cases hx
        have hm := List.mem_of_getElem? hc
        have hj := (List.getElem?_eq_some_iff.mp hc).1
        have ff := ok.few
        obtain ⟨x, v5, v6, v7, v8, τ2, h1, h2⟩ := shape_row (ts := ts) (ok.tab t hm) to tl r (by omega) u5 u6 u7 u8 τ'
        refine ⟨_, _, τ2, rfl, h1, r ++ [x], some t.p, v5, v6, v7, v8, rfl, by simp [g1], fun i t' cs h3 h4 => ?_⟩
        by_cases hi : i < r.length
        · rw [List.getElem?_append_left hi] at h4
          exact g2 i t' cs h3 h4
        · rw [List.getElem?_append_right (by omega)] at h4
          have h0 : i - r.length = 0 := by
            have := (List.getElem?_eq_some_iff.mp h4).1
            simp at this
            omega
          have ij : i = j := by omega
          subst ij
          rw [h0] at h4
          simp at h4
          rw [hc] at h3
          cases h3
          exact h2 cs h4)
  rw [List.length_map] at g1
  have ff := ok.few
  have rl : r.length ≤ sizeLine := by have := line_big; omega
  refine ⟨r, τ1, ?_, ⟨g1, g2⟩⟩
  have e : itemsC (encT ts) = some (ts.map Tab.p) := rfl
  simp [V__law_shape, b__law_shape, f1, e, rl]
  try rfl
/-! ### the counts -/
def iP (n : Int) : P := .int n
theorem mul_l {i j : Int} (h0 : 0 ≤ i) (h : i ≤ 1000000) : pMul (.int i) (.int j) = some (.int (i * j)) := if_pos (.inl (.inl ⟨by omega, by omega⟩))
theorem mul_r {i j : Int} (h0 : 0 ≤ j) (h : j ≤ 1000000) : pMul (.int i) (.int j) = some (.int (i * j)) := if_pos (.inl (.inr ⟨by omega, by omega⟩))
theorem ints_ip : ∀ l : List Int, intsP (l.map iP) = some l
  | [] => rfl
  | i :: l => by
    show (match intsP (l.map iP) with | some is => some (i :: is) | none => none) = _
    rw [ints_ip l]
end LW
namespace LW
open PySem PySem.Spec PyProof.Rows L2 RT RZ DL VL
theorem at_ip {A : List Int} {j : Nat} (h : j < A.length) : atI (A.map iP) (j : Int) = some (.int A[j]) := at_map (f := iP) (List.getElem?_eq_getElem h)
set_option maxHeartbeats 2000000 in
theorem many4_v {A L : List Int} {m j x : Nat} {e0 e2 e3 e5 e9 : Option P} (τ : Tau) (hm : m ≤ 100) (hx : x ≤ 1) (al : A.length ≤ 50000) (hj : j ≤ A.length) (hl : L.length ≤ 50001) :
    ∃ n : Int, b__law_many_4 [e0, some (.int m), e2, e3, some (.own (A.map iP)), e5, some (.int x), some (.own (L.map iP)), some (.int j), e9] τ = some (.nx, [e0, some (.int m), e2, e3, some (.own (A.map iP)), e5, some (.int x), some (.own ((L ++ [n]).map iP)), some (.int j), some (.int n)], τ) := by
  have lb := line_big
  have ll : L.length < sizeLine := by omega
  have ac : A.length ≤ sizeLine := by omega
  have mu : ∀ z : Int, pMul (.int ((m : Int) + j + x)) (.int z) = some (.int (((m : Int) + j + x) * z)) := fun z => mul_l (by omega) (by omega)
  by_cases h1 : j < A.length
  · have h1' : (j : Int) < A.length := by omega
    have a1 := at_ip h1
    generalize A[j] = y at a1
    by_cases h0 : j = 0
    · have h0' : ¬ (0 : Int) < (j : Int) := by omega
      generalize (j : Int) = J at *
      refine ⟨((m : Int) + J + x) * y, ?_⟩
      simp [b__law_many_4, h1', h0', a1, mu, ll, iP]
    · have h0' : (0 : Int) < (j : Int) := by omega
      have a2 := at_ip (A := A) (j := j - 1) (by omega)
      have e1 : ((j - 1 : Nat) : Int) = (j : Int) - 1 := by omega
      rw [e1] at a2
      generalize A[j - 1] = y2 at a2
      clear e1
      generalize (j : Int) = J at *
      refine ⟨((m : Int) + J + x) * y + y2, ?_⟩
      simp [b__law_many_4, h1', h0', a1, a2, mu, ll, iP]
  · have h1' : ¬ (j : Int) < A.length := by omega
    by_cases h0 : j = 0
    · have h0' : ¬ (0 : Int) < (j : Int) := by omega
      generalize (j : Int) = J at *
      refine ⟨0, ?_⟩
      simp [b__law_many_4, h1', h0', ll, iP]
    · have h0' : (0 : Int) < (j : Int) := by omega
      have a2 := at_ip (A := A) (j := j - 1) (by omega)
      have e1 : ((j - 1 : Nat) : Int) = (j : Int) - 1 := by omega
      rw [e1] at a2
      generalize A[j - 1] = y2 at a2
      clear e1
      generalize (j : Int) = J at *
      refine ⟨y2, ?_⟩
      simp [b__law_many_4, h1', h0', a2, ll, iP]
set_option maxHeartbeats 2000000 in
theorem many3_v {A : List Int} {m : Nat} {c : Col} {e0 e2 e3 e6 e7 e8 e9 : Option P} (τ : Tau) (hc : c.Ok) (hm : m ≤ 100) (al : A.length ≤ 49999) :
    ∃ (A' : List Int) (v6 v7 v8 v9 : Option P), b__law_many_3 [e0, some (.int m), e2, e3, some (.own (A.map iP)), some c.p, e6, e7, e8, e9] τ = some (.nx, [e0, some (.int m), e2, e3, some (.own (A'.map iP)), some c.p, v6, v7, v8, v9], τ) ∧ A.length ≤ A'.length ∧ A'.length ≤ A.length + 1 := by
  have lb := line_big
  have q := eqP_kind hc
  have q' : eqP (kindP c.kind) (.str (Str.ofString "text")) = some c.kind.isNone := q
  obtain ⟨x, hx, ex⟩ : ∃ x : Nat, x ≤ 1 ∧ qInt [.bl c.null] = some (.int x) := by
    cases c.null
    · exact ⟨0, by omega, rfl⟩
    · exact ⟨1, by omega, rfl⟩
  cases ek : c.kind with
  | none =>
    rw [ek] at q'
    obtain ⟨pe', τ', f1, L, u8, u9, rfl, rfl, hl⟩ := forV_all (tg := .nm 8) (fb := b__law_many_4)
      (fun j pe τ' => ∃ (L : List Int) (u8 u9 : Option P), pe = [e0, some (.int m), e2, e3, some (.own (A.map iP)), some c.p, some (.int x), some (.own (L.map iP)), u8, u9] ∧ τ' = τ ∧ L.length = j)
      (rangeP 0 (A.length + 1)) [e0, some (.int m), e2, e3, some (.own (A.map iP)), some c.p, some (.int x), some (.own []), e8, e9] τ ⟨[], e8, e9, rfl, rfl, rfl⟩ (by
        rintro j y pe τ' hy ⟨L, u8, u9, rfl, rfl, hl⟩
        obtain ⟨hj, rfl⟩ := rangeP_at hy
        obtain ⟨n, hn⟩ := many4_v (A := A) (L := L) (m := m) (j := j) (x := x) (e0 := e0) (e2 := e2) (e3 := e3) (e5 := some c.p) (e9 := u9) τ' hm hx (by omega) (by omega) (by omega)
        exact ⟨_, _, τ', rfl, hn, L ++ [n], some (.int j), some (.int n), rfl, rfl, by simp [hl]⟩)
    rw [rangeP_len] at hl
    have r : RgB ((A.length : Int) + 1) := .of (by omega)
    have tn : ((A.length : Int) + 1).toNat = A.length + 1 := by omega
    refine ⟨L, some (.int x), none, u8, u9, ?_, by omega, by omega⟩
    simp [Col.p, ek] at f1
    simp [b__law_many_3, Col.p, ek, ex, q', r, tn, f1]
  | some ws =>
    rw [ek] at q'
    have q'' : eqP (P.tup (ws.map P.str)) (.str (Str.ofString "text")) = some false := q'
    have hw := (hc.2 ws ek).2.2.2
    have ac : A.length ≤ sizeLine := by omega
    have mu : ∀ z : Int, pMul (.int z) (.int ((ws.length : Int) + x)) = some (.int (z * ((ws.length : Int) + x))) := fun z => mul_r (by omega) (by omega)
    have e := fun τ => lcV_map (tg := .nm 9) (gt := vTrue) (ge := vOp pMul (vVar 9) (vOp pAdd (vCB qLen (vCons (vOp pIx (vVar 5) (vC (.int 1))) vNil)) (vVar 6))) (pe := [e0, some (.int m), e2, e3, some (.own (A.map iP)), some (.tup [.str c.label, .tup (ws.map P.str), .bl c.null]), some (.int x), e7, e8, none]) (τ := τ) iP A (fun _ => true) (fun w => P.int (w * ((ws.length : Int) + x))) (fun w hw => ⟨_, rfl, rfl, fun _ => ⟨by simp [iP, mu], rfl⟩⟩)
    have ef : A.filter (fun _ => true) = A := List.filter_eq_self.mpr (fun _ _ => rfl)
    simp only [ef] at e
    refine ⟨A.map fun w => w * ((ws.length : Int) + x), some (.int x), e7, e8, e9, ?_, by simp, by simp⟩
    have e5 : (A.map fun w => w * ((ws.length : Int) + x)).map iP = A.map fun w => P.int (w * ((ws.length : Int) + x)) := by rw [List.map_map]; rfl
    rw [e5]
    simp [b__law_many_3, Col.p, ek, kindP, ex, q'', e, ac]
end LW
namespace LW
open PySem PySem.Spec PyProof.Rows L2 RT RZ DL VL
theorem ixN_nat {n j : Nat} (h : j < n) : ixN n (j : Int) = some j := ixN_of rfl h
set_option maxHeartbeats 2000000 in
theorem many1_v {W : List Int} {m : Nat} {x : Tab × Bool} {e0 e4 e5 e6 e7 e8 e9 : Option P} (τ : Tau) (hc : ∀ c ∈ x.1.cols, c.Ok) (hcl : x.1.cols.length ≤ 200) (hm : m ≤ 100) (wl : W.length ≤ 45000) :
    ∃ (W' : List Int) (v4 v5 v6 v7 v8 v9 : Option P), b__law_many_1 [e0, some (.int m), some (.lst (W.map iP)), some (Tab.pb x), e4, e5, e6, e7, e8, e9] τ = some (.nx, [e0, some (.int m), some (.lst (W'.map iP)), some (Tab.pb x), v4, v5, v6, v7, v8, v9], τ) ∧ W'.length ≤ W.length + 200 := by
  have lb := line_big
  have wc : W.length ≤ sizeLine := by omega
  obtain ⟨pe', τ', f1, A, u5, u6, u7, u8, u9, rfl, rfl, hl1, hl2⟩ := forV_all (tg := .nm 5) (fb := b__law_many_3)
    (fun j pe τ' => ∃ (A : List Int) (u5 u6 u7 u8 u9 : Option P), pe = [e0, some (.int m), some (.lst (W.map iP)), some (Tab.pb x), some (.own (A.map iP)), u5, u6, u7, u8, u9] ∧ τ' = τ ∧ W.length ≤ A.length ∧ A.length ≤ W.length + j)
    (x.1.cols.map Col.p) [e0, some (.int m), some (.lst (W.map iP)), some (Tab.pb x), some (.own (W.map iP)), e5, e6, e7, e8, e9] τ ⟨W, e5, e6, e7, e8, e9, rfl, rfl, Nat.le_refl _, Nat.le_refl _⟩ (by
      rintro j y pe τ' hy ⟨A, u5, u6, u7, u8, u9, rfl, rfl, g1, g2⟩
      rw [List.getElem?_map] at hy
      cases hcj : x.1.cols[j]? with
      | none => rw [hcj] at hy; cases hy
      | some c =>
        rw [hcj] at hy
        cases hy
        have hmem := List.mem_of_getElem? hcj
        have hj := (List.getElem?_eq_some_iff.mp hcj).1
        obtain ⟨A', v6, v7, v8, v9, h1, h2, h3⟩ := many3_v (A := A) (m := m) (c := c) (e0 := e0) (e2 := some (.lst (W.map iP))) (e3 := some (Tab.pb x)) (e6 := u6) (e7 := u7) (e8 := u8) (e9 := u9) τ' (hc c hmem) hm (by omega)
        exact ⟨_, _, τ', rfl, h1, A', some c.p, v6, v7, v8, v9, rfl, rfl, by omega, by omega⟩)
  rw [List.length_map] at hl2
  have i1 : itemsC (if x.2 = true then P.lst (x.1.cols.map Col.p) else P.tup (x.1.cols.map Col.p)) = some (x.1.cols.map Col.p) := by cases x.2 <;> rfl
  have s2 : pIx (Tab.pb x) (.int 2) = some (if x.2 = true then P.lst (x.1.cols.map Col.p) else P.tup (x.1.cols.map Col.p)) := rfl
  have s1 : pIx (Tab.pb x) (.int 1) = some (.bl x.1.opt) := rfl
  have ac : A.length ≤ sizeLine := by omega
  cases ho : x.1.opt with
  | false =>
    rw [ho] at s1
    refine ⟨A, some (.lst (A.map iP)), u5, u6, u7, u8, u9, ?_, by omega⟩
    simp [b__law_many_1, wc, s1, s2, i1, f1]
  | true =>
    rw [ho] at s1
    obtain ⟨pe2, τ2, f2, B, v8, rfl, rfl, hb⟩ := forV_all (tg := .nm 8) (fb := b__law_many_2)
      (fun j pe τ2 => ∃ (B : List Int) (u8 : Option P), pe = [e0, some (.int m), some (.lst (W.map iP)), some (Tab.pb x), some (.own (B.map iP)), u5, u6, u7, u8, u9] ∧ τ2 = τ' ∧ B.length = A.length)
      (rangeP 0 W.length) [e0, some (.int m), some (.lst (W.map iP)), some (Tab.pb x), some (.own (A.map iP)), u5, u6, u7, u8, u9] τ' ⟨A, u8, rfl, rfl, rfl⟩ (by
        rintro j y pe τ2 hy ⟨B, u8, rfl, rfl, hb⟩
        obtain ⟨hj, rfl⟩ := rangeP_at hy
        have a1 := at_ip (A := B) (j := j) (by omega)
        have a2 := at_ip (A := W) (j := j) hj
        have a3 := ixN_nat (n := B.length) (j := j) (by omega)
        refine ⟨_, _, _, rfl, ?_, B.set j (B[j]'(by omega) + W[j]), some (.int j), rfl, rfl, by simp [hb]⟩
        simp [b__law_many_2, a1, a2, a3, iP, List.map_set])
    have r : RgB (W.length : Int) := .of (by omega)
    refine ⟨B, some (.lst (B.map iP)), u5, u6, u7, v8, u9, ?_, by omega⟩
    simp [b__law_many_1, wc, s1, s2, i1, f1, r, f2]
set_option maxHeartbeats 2000000 in
theorem many_v {l : List (Tab × Bool)} {p : P} {m : Nat} (τ : Tau) (F : Few l) (hm : m ≤ 100) (hp : itemsC p = some (l.map Tab.pb)) : ∃ n : Int, V__law_many [p, .int m] τ = some (.ok (.int n), τ) := by
  obtain ⟨pe', τ', f1, W, u3, u4, u5, u6, u7, u8, u9, rfl, rfl, hl⟩ := forV_all (tg := .nm 3) (fb := b__law_many_1)
    (fun j pe τ' => ∃ (W : List Int) (u3 u4 u5 u6 u7 u8 u9 : Option P), pe = [some p, some (.int m), some (.lst (W.map iP)), u3, u4, u5, u6, u7, u8, u9] ∧ τ' = τ ∧ W.length ≤ 1 + 200 * j)
    (l.map Tab.pb) [some p, some (.int m), some (.lst [.int 1]), none, none, none, none, none, none, none] τ ⟨[1], none, none, none, none, none, none, none, rfl, rfl, by simp⟩ (by
      rintro j y pe τ' hy ⟨W, u3, u4, u5, u6, u7, u8, u9, rfl, rfl, hl⟩
      rw [List.getElem?_map] at hy
      cases hcj : l[j]? with
      | none => rw [hcj] at hy; cases hy
      | some x =>
        rw [hcj] at hy
        cases hy
        have hmem := List.mem_of_getElem? hcj
        have hj := (List.getElem?_eq_some_iff.mp hcj).1
        have ff := F.few
        obtain ⟨W', v4, v5, v6, v7, v8, v9, h1, h2⟩ := many1_v (W := W) (m := m) (x := x) (e0 := some p) (e4 := u4) (e5 := u5) (e6 := u6) (e7 := u7) (e8 := u8) (e9 := u9) τ' (F.col x hmem) (F.cols x hmem) hm (by omega)
        exact ⟨_, _, τ', rfl, h1, W', some (Tab.pb x), v4, v5, v6, v7, v8, v9, rfl, rfl, by omega⟩)
  have s := ints_ip W
  refine ⟨W.sum, ?_⟩
  simp [V__law_many, b__law_many, hp, f1, qSum, lstOf, s]
end LW
namespace LW
open PySem PySem.Spec PyProof.Rows L2 RT RZ DL VL
/-! ### the drawn tables -/
def KOk (k : Option (List Str)) : Prop := ∀ ws, k = some ws → (∀ x ∈ ws, SOk x) ∧ ws.Nodup ∧ ws ≠ [] ∧ ws.length ≤ 1000
theorem words_kind (τ : Tau) {m : Nat} (h0 : 0 < m) (hm : m ≤ 500) : ∃ (ws : List Str) (τ' : Tau), V__law_words [.tape, .int m, .lst []] τ = some (.ok (.lst (ws.map P.str)), τ') ∧ KOk (some ws) ∧ ws.length = m ∧ ws.Nodup ∧ ∀ x ∈ ws, SOk x := by
  obtain ⟨L, τ', h1, W, -⟩ := words_v (tk := []) (many := m) τ hm (by simp)
  refine ⟨L, τ', h1, fun ws e => ?_, W.len, W.nd, fun x hx => (W.ok x hx).1⟩
  cases e
  refine ⟨fun x hx => (W.ok x hx).1, W.nd, fun e => ?_, by rw [W.len]; omega⟩
  have := W.len
  rw [e] at this
  simp at this
  omega
/-- a table under way -/
def half (n : Str) (o : Bool) (C : List Col) : Tab × Bool := (⟨n, o, C⟩, true)
structure FewT (T : List Tab) : Prop where
  col : ∀ t ∈ T, ∀ c ∈ t.cols, c.Ok
  few : T.length ≤ 20
  cols : ∀ t ∈ T, t.cols.length ≤ 24
theorem few_half {T : List Tab} {n : Str} {o : Bool} {C : List Col} (F : FewT T) (hc : ∀ c ∈ C, c.Ok) (hl : C.length ≤ 24) : Few ((T.map fun t => (t, false)) ++ [half n o C]) := by
  refine ⟨fun x hx => ?_, ?_, fun x hx => ?_⟩
  · rcases List.mem_append.mp hx with h | h
    · obtain ⟨t, ht, rfl⟩ := List.mem_map.mp h
      exact F.col t ht
    · simp at h
      rw [h]
      exact hc
  · have := F.few
    simp
    omega
  · rcases List.mem_append.mp hx with h | h
    · obtain ⟨t, ht, rfl⟩ := List.mem_map.mp h
      have := F.cols t ht
      show t.cols.length ≤ 200
      omega
    · simp at h
      rw [h]
      show C.length ≤ 200
      omega
theorem half_pb (T : List Tab) (n : Str) (o : Bool) (C : List Col) : ((T.map fun t => (t, false)) ++ [half n o C]).map Tab.pb = T.map Tab.p ++ [.tup [.str n, .bl o, .lst (C.map Col.p)]] := by
  rw [List.map_append, List.map_map]
  rfl
noncomputable def sKind : PE → Tau → AnsV := (vIfS (vOr (vBl (vOp pLt (vCall V__law_draw (vCons (vVar 0) (vCons (vC (.int 5)) vNil))) (vC (.int 2)))) (vBl (vOp pGe (vLend 7 (vCB qLen (vCons (vCall V__law_textual (vCons (vOp pAdd (vVar 4) (vCB qLst (vCons (vCB qTup (vCons (vVar 5) (vCons (vVar 6) (vCons (vVar 7) vNil)))) vNil))) vNil)) vNil))) (vVar 3)))) (vAsg (.nm 9) (vCB qTuple (vCons (vCall V__law_words (vCons (vVar 0) (vCons (vOp pIx (vCB qLst (vCons (vC (.int 1)) (vCons (vC (.int 2)) (vCons (vC (.int 3)) (vCons (vC (.int 1)) (vCons (vC (.int 2)) (vCons (vC (.int 3)) (vCons (vC (.int 2)) (vCons (vC (.int 7)) vNil))))))))) (vCall V__law_draw (vCons (vVar 0) (vCons (vC (.int 8)) vNil)))) (vCons (vCB qLst vNil) vNil)))) vNil))) vNext)
set_option maxHeartbeats 4000000 in
theorem kind_v {T : List Tab} {C : List Col} {n : Str} {o : Bool} {e1 e2 e8 e10 e11 e12 : Option P} (τ : Tau) (F : FewT T) (hc : ∀ c ∈ C, c.Ok) (hl : C.length ≤ 24) :
    ∃ (k : Option (List Str)) (τ' : Tau), sKind [some .tape, e1, e2, some (.int 6), some (.own (T.map Tab.p)), some (.str n), some (.bl o), some (.own (C.map Col.p)), e8, some (.str (Str.ofString "text")), e10, e11, e12] τ = some (.nx, [some .tape, e1, e2, some (.int 6), some (.own (T.map Tab.p)), some (.str n), some (.bl o), some (.own (C.map Col.p)), e8, some (kindP k), e10, e11, e12], τ') ∧ KOk k := by
  obtain ⟨d, τ1, d1, hd⟩ := draw_lit τ 5
  have lb := line_big
  have tf := F.few
  have hw : ∀ τ1 : Tau, ∃ (ws : List Str) (j m : Nat) (τ2 τ3 : Tau), V__law_draw [.tape, .int 8] τ1 = some (.ok (.int j), τ2) ∧ atI [P.int 1, P.int 2, P.int 3, P.int 1, P.int 2, P.int 3, P.int 2, P.int 7] (j : Int) = some (.int m) ∧ V__law_words [.tape, .int m, .lst []] τ2 = some (.ok (.lst (ws.map P.str)), τ3) ∧ KOk (some ws) ∧ ws.length ≤ 500 := by
    intro τ1
    obtain ⟨j, τ2, d2, hj⟩ := draw_lit τ1 8
    obtain ⟨L, hL⟩ : ∃ L : List Nat, L = [1, 2, 3, 1, 2, 3, 2, 7] := ⟨_, rfl⟩
    obtain ⟨m, hm, hmm⟩ := get12 (l := L) (i := (j : Int)) (by omega) (by rw [hL]; simp; omega)
    have hml : ∀ y ∈ L, 0 < y ∧ y ≤ 7 := by rw [hL]; decide
    have hat := at_of (f := szN) hm
    rw [hL] at hat
    obtain ⟨a, b⟩ := hml m hmm
    obtain ⟨ws, τ3, w1, w2, w3, -⟩ := words_kind (m := m) τ2 a (by omega)
    exact ⟨ws, j, m, τ2, τ3, d2, hat, w1, w2, by omega⟩
  by_cases h2 : (d : Int) < 2
  · obtain ⟨ws, j, m, τ2, τ3, w1, w2, w3, w4, w5⟩ := hw τ1
    have wl : ws.length ≤ sizeLine := by omega
    refine ⟨some ws, τ3, ?_, w4⟩
    simp [sKind, d1, h2, w1, w2, w3, wl, kindP]
  · obtain ⟨l, ht, hl2⟩ := textual_v (ts := (T.map fun t => (t, false)) ++ [half n o C]) (p := .lst (T.map Tab.p ++ [.tup [.str n, .bl o, .lst (C.map Col.p)]])) τ1 (few_half F hc hl) (by rw [half_pb]; rfl) rfl
    have tl : T.length + 1 ≤ sizeLine := by omega
    have ll : l.length ≤ sizeLine := by simp at hl2; omega
    by_cases h6 : (6 : Int) ≤ l.length
    · obtain ⟨ws, j, m, τ2, τ3, w1, w2, w3, w4, w5⟩ := hw τ1
      have wl : ws.length ≤ sizeLine := by omega
      refine ⟨some ws, τ3, ?_, w4⟩
      simp [sKind, d1, h2, pAdd, pCat, lstOf, tl, ht, h6, w1, w2, w3, wl, kindP]
    · refine ⟨none, τ1, ?_, fun ws e => by cases e⟩
      simp [sKind, d1, h2, pAdd, pCat, lstOf, tl, ht, h6, kindP]
      try rfl
end LW
namespace LW
open PySem PySem.Spec PyProof.Rows L2 RT RZ DL VL
theorem ints_len (T : List Tab) : intsP (T.map fun t => P.int (t.cols.length : Int)) = some (T.map fun t => (t.cols.length : Int)) := by
  have := ints_ip (T.map fun t => (t.cols.length : Int))
  rw [List.map_map] at this
  exact this
theorem lens_v {T : List Tab} (F : FewT T) {pe : PE} {τ : Tau} (hp : pe.length = 13) : lcV (.nm 12) vTrue (vCB qLen (vCons (vOp pIx (vVar 12) (vC (.int 2))) vNil)) pe (T.map Tab.p) τ = some (T.map fun t => P.int (t.cols.length : Int), τ) := by
  have e := lcV_map (tg := .nm 12) (gt := vTrue) (ge := vCB qLen (vCons (vOp pIx (vVar 12) (vC (.int 2))) vNil)) (pe := pe) (τ := τ) Tab.p T (fun _ => true) (fun t => P.int (t.cols.length : Int)) (fun t ht => by
    have c := F.cols t ht
    have lb := line_big
    have cl : t.cols.length ≤ sizeLine := by omega
    refine ⟨pe.set 12 (some t.p), by simp, rfl, fun _ => ⟨?_, rfl⟩⟩
    have e2 : pIx t.p (.int 2) = some (.tup (t.cols.map Col.p)) := rfl
    have g : (pe.set 12 (some t.p))[12]? = some (some t.p) := by rw [List.getElem?_set_self (by omega)]
    simp [g, e2, cl])
  rw [e]
  have ef : T.filter (fun _ => true) = T := List.filter_eq_self.mpr (fun _ _ => rfl)
  rw [ef]
set_option maxHeartbeats 4000000 in
theorem tables2_v {T : List Tab} {C : List Col} {n lb : Str} {o : Bool} {M : Int} {e9 e10 e11 : Option P} (τ : Tau) (F : FewT T) (hc : ∀ c ∈ C, c.Ok) (hl : C.length < 24) (lo : SOk lb) :
    ∃ (C' : List Col) (v9 v10 v11 : Option P) (τ' : Tau), b__law_tables_2 V__law_words V__law_draw V__law_many V__law_textual [some .tape, some (.int M), some (.int 3), some (.int 6), some (.own (T.map Tab.p)), some (.str n), some (.bl o), some (.own (C.map Col.p)), some (.str lb), e9, e10, e11, none] τ = some (.nx, [some .tape, some (.int M), some (.int 3), some (.int 6), some (.own (T.map Tab.p)), some (.str n), some (.bl o), some (.own (C'.map Col.p)), some (.str lb), v9, v10, v11, none], τ')
      ∧ (C' = C ∨ ∃ c : Col, c.Ok ∧ c.label = lb ∧ C' = C ++ [c]) := by
  obtain ⟨k, τ1, k1, kok⟩ := kind_v (T := T) (C := C) (n := n) (o := o) (e1 := some (.int M)) (e2 := some (.int 3)) (e8 := some (.str lb)) (e10 := e10) (e11 := e11) (e12 := none) τ F hc (by omega)
  obtain ⟨d, τ2, d2, hd⟩ := draw_lit τ1 3
  have lbg := line_big
  have tf := F.few
  have tl : T.length ≤ sizeLine := by omega
  have tl1 : T.length + 1 ≤ sizeLine := by omega
  have cl : C.length ≤ sizeLine := by omega
  have cl1 : C.length + 1 ≤ sizeLine := by omega
  have cl2 : C.length < sizeLine := by omega
  obtain ⟨c, hcd⟩ : ∃ c : Col, c = ⟨lb, k, decide (d = 0)⟩ := ⟨_, rfl⟩
  have cok : c.Ok := by rw [hcd]; exact ⟨lo, kok⟩
  have cp : P.tup [.str lb, kindP k, .bl (decide (d = 0))] = c.p := by rw [hcd]; rfl
  have clb : c.label = lb := by rw [hcd]
  obtain ⟨mn, hmn⟩ := many_v (l := (T.map fun t => (t, false)) ++ [half n o (C ++ [c])]) (p := .lst (T.map Tab.p ++ [.tup [.str n, .bl o, .lst (C.map Col.p ++ [c.p])]])) (m := 3) τ2 (few_half F (fun x hx => by
    rcases List.mem_append.mp hx with h | h
    · exact hc x h
    · simp at h; rw [h]; exact cok) (by simp; omega)) (by omega) (by rw [half_pb]; simp)
  have lens := fun (pe : PE) (hp : pe.length = 13) => lens_v (T := T) F (pe := pe) (τ := τ2) hp
  have il := ints_len T
  have ow : (kindP k).isOwn = false := by cases k <;> rfl
  have ec : (C ++ [c]).map Col.p = C.map Col.p ++ [c.p] := by simp
  generalize hS : (T.map fun t => (t.cols.length : Int)).sum = S at *
  simp only [b__law_tables_2]
  change ∃ (C' : List Col) (v9 v10 v11 : Option P) (τ' : Tau), vSeq (vAsg (.nm 9) (vC (.str (Str.ofString "text")))) (vSeq sKind _) _ _ = _ ∧ _
  generalize sKind = SK at *
  by_cases h6 : S + (C.length : Int) < 6 ∧ mn ≤ M
  · obtain ⟨h6, h7⟩ := h6
    refine ⟨C ++ [c], some (kindP k), some c.p, some (.int (S + C.length)), τ2, ?_, .inr ⟨c, cok, clb, rfl⟩⟩
    rw [ec]
    simp at hmn
    simp [k1, ow, d2, cp, lens, il, hS, qSum, lstOf, tl, cl, cl1, cl2, tl1, pAdd, pCat, h6, hmn, h7]
  · refine ⟨C, some (kindP k), some c.p, some (.int (S + C.length)), τ2, ?_, .inl rfl⟩
    simp at hmn
    by_cases h66 : S + (C.length : Int) < 6
    · have h7 : ¬ mn ≤ M := fun h => h6 ⟨h66, h⟩
      simp [k1, ow, d2, cp, lens, il, hS, qSum, lstOf, tl, cl, cl1, cl2, tl1, pAdd, pCat, h66, hmn, h7]
    · simp [k1, ow, d2, cp, lens, il, hS, qSum, lstOf, tl, cl, cl1, cl2, tl1, pAdd, pCat, h66]
end LW
namespace LW
open PySem PySem.Spec PyProof.Rows L2 RT RZ DL VL
noncomputable def sTail : PE → Tau → AnsV := (vSeq (vAsg (.nm 11) (vOp pAdd (vCB qSum (vCons (vLc (wvSeq (vVar 4)) (.nm 12) vTrue (vCB qLen (vCons (vOp pIx (vVar 12) (vC (.int 2))) vNil)) [12]) vNil)) (vCB qLen (vCons (vVar 7) vNil))))
    (vIfS (vOr (vNot (vTru (vVar 4))) (vAnd (vBl (vOp pLe (vVar 11) (vC (.int 6)))) (vBl (vOp pLe (vLend 7 (vCall V__law_many (vCons (vOp pAdd (vVar 4) (vCB qLst (vCons (vCB qTup (vCons (vVar 5) (vCons (vVar 6) (vCons (vVar 7) vNil)))) vNil))) (vCons (vVar 2) vNil)))) (vVar 1))))) (vAppend 4 (vCB qTup (vCons (vVar 5) (vCons (vVar 6) (vCons (vCB qTuple (vCons (vVar 7) vNil)) vNil))))) vNext))
set_option maxHeartbeats 4000000 in
theorem tail_v {T : List Tab} {C : List Col} {n : Str} {o : Bool} {M : Int} {e8 e9 e10 e11 : Option P} (τ : Tau) (F : FewT T) (hc : ∀ c ∈ C, c.Ok) (hl : C.length ≤ 24) :
    ∃ (T' : List Tab) (v11 : Option P), sTail [some .tape, some (.int M), some (.int 3), some (.int 6), some (.own (T.map Tab.p)), some (.str n), some (.bl o), some (.own (C.map Col.p)), e8, e9, e10, e11, none] τ = some (.nx, [some .tape, some (.int M), some (.int 3), some (.int 6), some (.own (T'.map Tab.p)), some (.str n), some (.bl o), some (.own (C.map Col.p)), e8, e9, e10, v11, none], τ)
      ∧ ((T' = T ∧ T ≠ []) ∨ T' = T ++ [Tab.mk n o C]) := by
  have lbg := line_big
  have tf := F.few
  have tl : T.length ≤ sizeLine := by omega
  have tl2 : T.length < sizeLine := by omega
  have tl1 : T.length + 1 ≤ sizeLine := by omega
  have cl : C.length ≤ sizeLine := by omega
  obtain ⟨mn, hmn⟩ := many_v (l := (T.map fun t => (t, false)) ++ [half n o C]) (p := .lst (T.map Tab.p ++ [.tup [.str n, .bl o, .lst (C.map Col.p)]])) (m := 3) τ (few_half F hc hl) (by omega) (by rw [half_pb]; rfl)
  have lens := fun (pe : PE) (hp : pe.length = 13) => lens_v (T := T) F (pe := pe) (τ := τ) hp
  have il := ints_len T
  have tp : P.tup [.str n, .bl o, .tup (C.map Col.p)] = (Tab.mk n o C).p := rfl
  have ec : (T ++ [Tab.mk n o C]).map Tab.p = T.map Tab.p ++ [(Tab.mk n o C).p] := by simp
  generalize hS : (T.map fun t => (t.cols.length : Int)).sum = S at *
  simp at hmn
  by_cases hT : T = []
  · refine ⟨T ++ [Tab.mk n o C], some (.int (S + C.length)), ?_, .inr rfl⟩
    rw [ec, ← tp]
    subst hT
    have l0 : (0 : Nat) < sizeLine := tl2
    simp at lens hS
    subst hS
    simp [sTail, lens, intsP, qSum, lstOf, cl, l0]
  · by_cases h6 : S + (C.length : Int) ≤ 6
    · by_cases h7 : mn ≤ M
      · refine ⟨T ++ [Tab.mk n o C], some (.int (S + C.length)), ?_, .inr rfl⟩
        rw [ec, ← tp]
        simp [sTail, lens, il, hS, qSum, lstOf, tl, tl1, tl2, cl, pAdd, pCat, hT, h6, hmn, h7]
      · refine ⟨T, some (.int (S + C.length)), ?_, .inl ⟨rfl, hT⟩⟩
        simp [sTail, lens, il, hS, qSum, lstOf, tl, tl1, tl2, cl, pAdd, pCat, hT, h6, hmn, h7]
    · refine ⟨T, some (.int (S + C.length)), ?_, .inl ⟨rfl, hT⟩⟩
      simp [sTail, lens, il, hS, qSum, lstOf, tl, tl1, tl2, cl, pAdd, pCat, hT, h6, hmn]
end LW
namespace LW
open PySem PySem.Spec PyProof.Rows L2 RT RZ DL VL
/-- a drawn number of words -/
theorem some_words (L : List Nat) (hL : ∀ y ∈ L, 0 < y ∧ y ≤ 20) (τ : Tau) {q : Nat} (hq : 0 < q) (hq2 : q = L.length) (q9 : q ≤ 9) : ∃ (ws : List Str) (j m : Nat) (τ2 τ3 : Tau), V__law_draw [.tape, .int q] τ = some (.ok (.int j), τ2) ∧ atI (L.map szN) (j : Int) = some (.int m) ∧ V__law_words [.tape, .int m, .lst []] τ2 = some (.ok (.lst (ws.map P.str)), τ3) ∧ ws.length = m ∧ m ∈ L ∧ 0 < m ∧ ws.Nodup ∧ ∀ x ∈ ws, SOk x := by
  obtain ⟨j, τ2, d2, hj⟩ := draw_v (m := q) τ hq (by simp only [Nat.reducePow]; omega)
  obtain ⟨m, hm, hmm⟩ := get12 (l := L) (i := (j : Int)) (by omega) (by omega)
  have hat := at_of (f := szN) hm
  obtain ⟨a, b⟩ := hL m hmm
  obtain ⟨ws, τ3, w1, w2, w3, w4, w5⟩ := words_kind (m := m) τ2 a (by omega)
  exact ⟨ws, j, m, τ2, τ3, d2, hat, w1, w3, hmm, a, w4, w5⟩
theorem sub_step {α : Type} {A L : List α} {j : Nat} {x : α} (h : A.Sublist (L.take j)) (hx : L[j]? = some x) : A.Sublist (L.take (j + 1)) ∧ (A ++ [x]).Sublist (L.take (j + 1)) := by
  have e : L.take (j + 1) = L.take j ++ [x] := by
    rw [List.take_add_one, hx]
    rfl
  rw [e]
  exact ⟨h.trans (List.sublist_append_left _ _), h.append (List.Sublist.refl _)⟩
def only : Col := ⟨Str.ofString "only", some [Str.ofString "one"], false⟩
theorem only_ok : only.Ok := ⟨sok_lit, fun ws e => by
  cases e
  exact ⟨fun x hx => by simp at hx; rw [hx]; exact sok_lit, by simp, by simp, by simp⟩⟩
set_option maxHeartbeats 4000000 in
theorem tables1_v {T : List Tab} {n : Str} {M : Int} {e6 e7 e8 e9 e10 e11 : Option P} (τ : Tau) (F : FewT T) (hn : SOk n) :
    ∃ (T' : List Tab) (v6 v7 v8 v9 v10 v11 : Option P) (τ' : Tau), b__law_tables_1 V__law_words V__law_draw V__law_many V__law_textual [some .tape, some (.int M), some (.int 3), some (.int 6), some (.own (T.map Tab.p)), some (.str n), e6, e7, e8, e9, e10, e11, none] τ = some (.nx, [some .tape, some (.int M), some (.int 3), some (.int 6), some (.own (T'.map Tab.p)), some (.str n), v6, v7, v8, v9, v10, v11, none], τ')
      ∧ ((T' = T ∧ T ≠ []) ∨ ∃ t : Tab, t.Ok ∧ t.name = n ∧ T' = T ++ [t]) := by
  obtain ⟨d, τ1, d1, hd⟩ := draw_lit τ 3
  obtain ⟨ls, j, m, τ2, τ3, w1, w2, w3, w4, w5, w6, w7, w8⟩ := some_words [1, 1, 2, 2, 3, 4] (by decide) τ1 (q := 6) (by omega) rfl (by omega)
  have m4 : m ≤ 4 := by
    have h : ∀ y ∈ [1, 1, 2, 2, 3, 4], y ≤ 4 := by decide
    exact h m w5
  generalize ho : decide (d = 0) = o at *
  obtain ⟨pe', τ', f1, C, v8, v9, v10, v11, rfl, c1, c2⟩ := forV_all (tg := .nm 8) (fb := b__law_tables_2 V__law_words V__law_draw V__law_many V__law_textual)
    (fun j pe τ' => ∃ (C : List Col) (v8 v9 v10 v11 : Option P), pe = [some .tape, some (.int M), some (.int 3), some (.int 6), some (.own (T.map Tab.p)), some (.str n), some (.bl o), some (.own (C.map Col.p)), v8, v9, v10, v11, none] ∧ (C.map Col.label).Sublist (ls.take j) ∧ ∀ c ∈ C, c.Ok)
    (ls.map P.str) [some .tape, some (.int M), some (.int 3), some (.int 6), some (.own (T.map Tab.p)), some (.str n), some (.bl o), some (.own []), e8, e9, e10, e11, none] τ3 ⟨[], e8, e9, e10, e11, rfl, by simp, by simp⟩ (by
      rintro j y pe τ' hy ⟨C, v8, v9, v10, v11, rfl, g1, g2⟩
      rw [List.getElem?_map] at hy
      cases hcj : ls[j]? with
      | none => rw [hcj] at hy; cases hy
      | some x =>
        rw [hcj] at hy
        cases hy
        have hx := List.mem_of_getElem? hcj
        have gl := g1.length_le
        rw [List.length_map, List.length_take] at gl
        obtain ⟨C', u9, u10, u11, τ4, h1, h2⟩ := tables2_v (T := T) (C := C) (n := n) (lb := x) (o := o) (M := M) (e9 := v9) (e10 := v10) (e11 := v11) τ' F g2 (by omega) (w8 x hx)
        obtain ⟨s1, s2⟩ := sub_step g1 hcj
        refine ⟨_, _, τ4, rfl, h1, C', some (.str x), u9, u10, u11, rfl, ?_⟩
        rcases h2 with rfl | ⟨c, h3, h4, rfl⟩
        · exact ⟨s1, g2⟩
        · refine ⟨?_, fun z hz => ?_⟩
          · rw [List.map_append]
            show (C.map Col.label ++ [c.label]).Sublist _
            rw [h4]
            exact s2
          · rcases List.mem_append.mp hz with h | h
            · exact g2 z h
            · simp at h
              rw [h]
              exact h3)
  have c3 := c1.trans (List.take_sublist _ _)
  have cnd : (C.map Col.label).Nodup := c3.nodup w7
  have ccl := c3.length_le
  rw [List.length_map] at ccl
  have lbg := line_big
  simp only [szN, List.map] at w2
  simp at w2
  simp only [b__law_tables_1]
  change ∃ (T' : List Tab) (v6 v7 v8 v9 v10 v11 : Option P) (τ' : Tau), vSeq _ (vSeq _ (vSeq _ (vSeq _ sTail))) _ _ = _ ∧ _
  generalize b__law_tables_2 V__law_words V__law_draw V__law_many V__law_textual = B2 at f1 ⊢
  by_cases hC : C = []
  · subst hC
    obtain ⟨T', u11, t1, t2⟩ := tail_v (T := T) (C := [only]) (n := n) (o := o) (M := M) (e8 := v8) (e9 := v9) (e10 := v10) (e11 := v11) τ' F (fun c hc => by simp at hc; rw [hc]; exact only_ok) (by simp)
    generalize sTail = ST at t1 ⊢
    refine ⟨T', some (.bl o), some (.own ([only].map Col.p)), v8, v9, v10, u11, τ', ?_, ?_⟩
    rotate_left
    · rcases t2 with h | h
      · exact .inl h
      · exact .inr ⟨_, ⟨hn, fun c hc => by simp at hc; rw [hc]; exact only_ok, by simp, by simp, by simp⟩, rfl, h⟩
    have l0 : (0 : Nat) < sizeLine := by omega
    have eo : [only].map Col.p = [.tup [.str (Str.ofString "only"), .tup [.str (Str.ofString "one")], .bl false]] := rfl
    rw [eo] at t1 ⊢
    simp at f1 w1
    simp [d1, ho, w1, w2, w3, f1, l0, t1]
  · obtain ⟨T', u11, t1, t2⟩ := tail_v (T := T) (C := C) (n := n) (o := o) (M := M) (e8 := v8) (e9 := v9) (e10 := v10) (e11 := v11) τ' F c2 (by omega)
    generalize sTail = ST at t1 ⊢
    refine ⟨T', some (.bl o), some (.own (C.map Col.p)), v8, v9, v10, u11, τ', ?_, ?_⟩
    rotate_left
    · rcases t2 with h | h
      · exact .inl h
      · exact .inr ⟨_, ⟨hn, c2, cnd, hC, by show C.length ≤ 24; omega⟩, rfl, h⟩
    simp at f1 w1
    simp [d1, ho, w1, w2, w3, f1, hC, t1]
end LW
namespace LW
open PySem PySem.Spec PyProof.Rows L2 RT RZ DL VL
set_option maxHeartbeats 4000000 in
theorem tables_v {M : Int} (τ : Tau) : ∃ (ts : List Tab) (τ' : Tau), V__law_tables [.tape, .int M, .int 3, .int 6] τ = some (.ok (encT ts), τ') ∧ TabsOk ts := by
  obtain ⟨ls, j, m, τ2, τ3, w1, w2, w3, w4, w5, w6, w7, w8⟩ := some_words [1, 1, 1, 2, 2, 3] (by decide) τ (q := 6) (by omega) rfl (by omega)
  have m4 : m ≤ 4 := by
    have h : ∀ y ∈ [1, 1, 1, 2, 2, 3], y ≤ 4 := by decide
    exact h m w5
  obtain ⟨pe', τ', f1, T, v5, v6, v7, v8, v9, v10, v11, rfl, c1, c2, c3⟩ := forV_all (tg := .nm 5) (fb := b__law_tables_1 V__law_words V__law_draw V__law_many V__law_textual)
    (fun j pe τ' => ∃ (T : List Tab) (v5 v6 v7 v8 v9 v10 v11 : Option P), pe = [some .tape, some (.int M), some (.int 3), some (.int 6), some (.own (T.map Tab.p)), v5, v6, v7, v8, v9, v10, v11, none] ∧ (T.map Tab.name).Sublist (ls.take j) ∧ (∀ t ∈ T, t.Ok) ∧ (0 < j → T ≠ []))
    (ls.map P.str) [some .tape, some (.int M), some (.int 3), some (.int 6), some (.own []), none, none, none, none, none, none, none, none] τ3 ⟨[], none, none, none, none, none, none, none, rfl, by simp, by simp, by omega⟩ (by
      rintro j y pe τ' hy ⟨T, v5, v6, v7, v8, v9, v10, v11, rfl, g1, g2, g3⟩
      rw [List.getElem?_map] at hy
      cases hcj : ls[j]? with
      | none => rw [hcj] at hy; cases hy
      | some x =>
        rw [hcj] at hy
        cases hy
        have hx := List.mem_of_getElem? hcj
        have gl := g1.length_le
        rw [List.length_map, List.length_take] at gl
        obtain ⟨T', u6, u7, u8, u9, u10, u11, τ4, h1, h2⟩ := tables1_v (T := T) (n := x) (M := M) (e6 := v6) (e7 := v7) (e8 := v8) (e9 := v9) (e10 := v10) (e11 := v11) τ' ⟨fun t ht => (g2 t ht).cols, by omega, fun t ht => (g2 t ht).few⟩ (w8 x hx)
        obtain ⟨s1, s2⟩ := sub_step g1 hcj
        refine ⟨_, _, τ4, rfl, h1, T', some (.str x), u6, u7, u8, u9, u10, u11, rfl, ?_⟩
        rcases h2 with ⟨rfl, h⟩ | ⟨t, h3, h4, rfl⟩
        · exact ⟨s1, g2, fun _ => h⟩
        · refine ⟨?_, fun z hz => ?_, fun _ => by simp⟩
          · rw [List.map_append]
            show (T.map Tab.name ++ [t.name]).Sublist _
            rw [h4]
            exact s2
          · rcases List.mem_append.mp hz with h | h
            · exact g2 z h
            · simp at h
              rw [h]
              exact h3)
  rw [List.length_map] at c3
  have c4 := c1.trans (List.take_sublist _ _)
  have cnd : (T.map Tab.name).Nodup := c4.nodup w7
  have ccl := c4.length_le
  rw [List.length_map] at ccl
  have lbg := line_big
  have tl : T.length ≤ sizeLine := by omega
  simp only [szN, List.map] at w2
  simp at w2 f1 w1
  refine ⟨T, τ', ?_, ⟨c2, cnd, c3 (by omega), by omega⟩⟩
  simp only [V__law_tables, b__law_tables]
  generalize b__law_tables_1 V__law_words V__law_draw V__law_many V__law_textual = B1 at f1 ⊢
  simp [w1, w2, w3, f1, tl, encT]
end LW
namespace LW
open PySem PySem.Spec PyProof.Rows L2 RT RZ DL VL
def wword (k : Nat) : Str := Str.ofString "w" ++ Str.ofString (toString ((0 : Int) + (k : Int)))
theorem w7_nodup : ((List.range 7).map wword).Nodup := by decide +kernel
theorem w7_ok : ∀ x ∈ (List.range 7).map wword, PyData.strOk x = true := by decide +kernel
theorem w7_len : ∀ k : Nat, k < 7 → (Str.ofString "w").length + (Str.ofString (toString ((0 : Int) + (k : Int)))).length ≤ 5 := by decide +kernel
theorem w7_log : ∀ k : Nat, k < 7 → ((0 : Int) + (k : Int)).natAbs.log2 < 1920 := by decide +kernel
theorem w7_sub {m : Nat} (h : m ≤ 7) : ((List.range m).map wword).Sublist ((List.range 7).map wword) := (List.Sublist.map _ (List.range_sublist.mpr h))
theorem wkind {m : Nat} (h0 : 0 < m) (h : m ≤ 7) : KOk (some ((List.range m).map wword)) := fun ws e => by
  cases e
  refine ⟨fun x hx => w7_ok x ((w7_sub h).subset hx), (w7_sub h).nodup w7_nodup, fun e => ?_, by simp; omega⟩
  have := congrArg List.length e
  simp at this
  omega
set_option maxHeartbeats 4000000 in
theorem large2_v {C : List Col} {lb : Str} {e2 e3 e4 e5 e6 e9 e10 : Option P} (τ : Tau) (hl : C.length ≤ 24) (lo : SOk lb) :
    ∃ (c : Col) (v9 v10 : Option P) (τ' : Tau), b__law_large_2 V__law_draw V__law_words [some .tape, some (.int 7), e2, e3, e4, e5, e6, some (.own (C.map Col.p)), some (.str lb), e9, e10, none] τ = some (.nx, [some .tape, some (.int 7), e2, e3, e4, e5, e6, some (.own ((C ++ [c]).map Col.p)), some (.str lb), v9, v10, none], τ') ∧ c.Ok ∧ c.label = lb := by
  obtain ⟨d, τ1, d1, hd⟩ := draw_lit τ 4
  have lbg := line_big
  have cl : C.length < sizeLine := by omega
  have fin : ∀ (k : Option (List Str)) (τ2 : Tau), KOk k → ∃ (c : Col) (τ3 : Tau), (∀ pe : PE, pe[0]? = some (some .tape) → pe[8]? = some (some (.str lb)) → pe[10]? = some (some (kindP k)) → vCB qTup (vCons (vVar 8) (vCons (vVar 10) (vCons (vOp pEq (vCall V__law_draw (vCons (vVar 0) (vCons (vC (.int 2)) vNil))) (vC (.int 0))) vNil))) pe τ2 = some (.ok c.p, τ3)) ∧ c.Ok ∧ c.label = lb := by
    intro k τ2 kok
    obtain ⟨b, τ3, d3, hb⟩ := draw_lit τ2 2
    refine ⟨⟨lb, k, decide (b = 0)⟩, τ3, fun pe p0 p8 p10 => ?_, ⟨lo, kok⟩, rfl⟩
    have ow : (kindP k).isOwn = false := by cases k <;> rfl
    simp [p0, p8, p10, d3, Col.p, ow]
  have ec : ∀ c : Col, (C ++ [c]).map Col.p = C.map Col.p ++ [c.p] := fun c => by simp
  simp only [b__law_large_2]
  by_cases h0 : d = 0
  · subst h0
    obtain ⟨j, τ2, d2, hj⟩ := draw_lit τ1 4
    obtain ⟨m, hm1, hm2, hat⟩ : ∃ m : Nat, 0 < m ∧ m ≤ 7 ∧ atI [P.int 1, P.int 2, P.int 7, P.int 7] (j : Int) = some (.int m) := by
      obtain ⟨L, hL⟩ : ∃ L : List Nat, L = [1, 2, 7, 7] := ⟨_, rfl⟩
      obtain ⟨m, hm, hmm⟩ := get12 (l := L) (i := (j : Int)) (by omega) (by rw [hL]; simp; omega)
      have hml : ∀ y ∈ L, 0 < y ∧ y ≤ 7 := by rw [hL]; decide
      have hat := at_of (f := szN) hm
      rw [hL] at hat
      exact ⟨m, (hml m hmm).1, (hml m hmm).2, hat⟩
    obtain ⟨c, τ3, f1, f2, f3⟩ := fin (some ((List.range m).map wword)) τ2 (wkind hm1 hm2)
    have r : RgB (m : Int) := .of (by omega)
    have lc := lcV_map (tg := .nm 11) (gt := vTrue) (ge := vOp pAdd (vC (.str (Str.ofString "w"))) (vCB qStr (vCons (vVar 11) vNil))) (pe := [some .tape, some (.int 7), e2, e3, e4, e5, e6, some (.own (C.map Col.p)), some (.str lb), some (.int 0), some (.str (Str.ofString "text")), none]) (τ := τ2) (fun k : Nat => P.int (0 + k)) (List.range m) (fun _ => true) (fun k => P.str (wword k)) (fun k hk => by
      have hk' : k < 7 := by have := List.mem_range.mp hk; omega
      have q1 := w7_log k hk'
      have q2 := pAdd_str (Str.ofString "w") (Str.ofString (toString ((0 : Int) + (k : Int)))) (by have := w7_len k hk'; omega)
      have q3 : qStr [.int ((0 : Int) + (k : Int))] = some (.str (Str.ofString (toString ((0 : Int) + (k : Int))))) := if_pos q1
      have q4 : wword k = Str.ofString "w" ++ Str.ofString (toString ((0 : Int) + (k : Int))) := rfl
      refine ⟨_, rfl, rfl, fun _ => ⟨?_, rfl⟩⟩
      rw [q4]
      generalize hK : ((0 : Int) + (k : Int)) = K at *
      generalize Str.ofString (toString K) = SS at *
      simp [hK, q3, q2])
    have ef : (List.range m).filter (fun _ => true) = List.range m := List.filter_eq_self.mpr (fun _ _ => rfl)
    rw [ef] at lc
    have er : (List.range m).map (fun k : Nat => P.int (0 + k)) = rangeP 0 m := rfl
    rw [er] at lc
    have ek : (List.range m).map (fun k => P.str (wword k)) = ((List.range m).map wword).map P.str := by rw [List.map_map]; rfl
    rw [ek] at lc
    have kl : ((List.range m).map wword).length = m := by simp
    generalize (List.range m).map wword = KW at *
    have kl2 : KW.length ≤ sizeLine := by omega
    have ml : m ≤ sizeLine := by omega
    refine ⟨c, some (.int 0), some (kindP (some KW)), τ3, ?_, f2, f3⟩
    rw [ec]
    have f1' := f1 [some .tape, some (.int 7), e2, e3, e4, e5, e6, some (.own (C.map Col.p)), some (.str lb), some (.int 0), some (kindP (some KW)), none] rfl rfl rfl
    generalize vCB qTup (vCons (vVar 8) (vCons (vVar 10) (vCons (vOp pEq (vCall V__law_draw (vCons (vVar 0) (vCons (vC (.int 2)) vNil))) (vC (.int 0))) vNil))) = EX at f1' ⊢
    simp at d1 f1'
    simp only [kindP] at f1' ⊢
    simp [d1, d2, hat, r, lc, kl2, ml, f1', cl]
  · by_cases h1 : d = 1
    · subst h1
      obtain ⟨j, τ2, d2, hj⟩ := draw_lit τ1 3
      obtain ⟨ws, τ3, w1, w2, w3, w4, w5⟩ := words_kind (m := 1 + j) τ2 (by omega) (by omega)
      obtain ⟨c, τ4, f1, f2, f3⟩ := fin (some ws) τ3 w2
      have f1' := f1 [some .tape, some (.int 7), e2, e3, e4, e5, e6, some (.own (C.map Col.p)), some (.str lb), some (.int 1), some (kindP (some ws)), none] rfl rfl rfl
      have kl2 : ws.length ≤ sizeLine := by omega
      refine ⟨c, some (.int 1), some (kindP (some ws)), τ4, ?_, f2, f3⟩
      rw [ec]
      generalize vCB qTup (vCons (vVar 8) (vCons (vVar 10) (vCons (vOp pEq (vCall V__law_draw (vCons (vVar 0) (vCons (vC (.int 2)) vNil))) (vC (.int 0))) vNil))) = EX at f1' ⊢
      simp at d1 f1' w1
      simp only [kindP] at f1' ⊢
      simp [d1, d2, w1, kl2, f1', cl]
    · have h0' : ¬ (d : Int) = 0 := by omega
      have h1' : ¬ (d : Int) = 1 := by omega
      obtain ⟨c, τ4, f1, f2, f3⟩ := fin none τ1 (fun ws e => by cases e)
      have f1' := f1 [some .tape, some (.int 7), e2, e3, e4, e5, e6, some (.own (C.map Col.p)), some (.str lb), some (.int d), some (kindP none), none] rfl rfl rfl
      refine ⟨c, some (.int d), some (kindP none), τ4, ?_, f2, f3⟩
      rw [ec]
      generalize vCB qTup (vCons (vVar 8) (vCons (vVar 10) (vCons (vOp pEq (vCall V__law_draw (vCons (vVar 0) (vCons (vC (.int 2)) vNil))) (vC (.int 0))) vNil))) = EX at f1' ⊢
      simp only [kindP, sText] at f1' ⊢
      try simp at f1'
      simp [d1, h0, h1, h0', h1', f1', cl]
set_option maxHeartbeats 4000000 in
theorem large1_v {N : List Str} {left k : Nat} {T : List Tab} {n : Str} {e5 e6 e7 e8 e9 e10 : Option P} (τ : Tau) (hk : N[k]? = some n) (hl : N.length ≤ left + k) (hn : SOk n) (nl : N.length ≤ 8) (tl : T.length ≤ 20) :
    ∃ (t : Tab) (left' : Nat) (v6 v7 v8 v9 v10 : Option P) (τ' : Tau), b__law_large_1 V__law_draw V__law_words [some .tape, some (.int 7), some (.lst (N.map P.str)), some (.int left), some (.own (T.map Tab.p)), some (.int k), e6, e7, e8, e9, e10, none] τ = some (.nx, [some .tape, some (.int 7), some (.lst (N.map P.str)), some (.int left'), some (.own ((T ++ [t]).map Tab.p)), some (.int k), v6, v7, v8, v9, v10, none], τ') ∧ t.Ok ∧ t.name = n ∧ N.length ≤ left' + (k + 1) := by
  have hkn := (List.getElem?_eq_some_iff.mp hk).1
  obtain ⟨d, τ1, d1, hd⟩ := draw_lit τ 4
  obtain ⟨m, hm⟩ : ∃ m : Nat, m = min (1 + d) (left - (N.length - 1 - k)) := ⟨_, rfl⟩
  have m0 : 0 < m := by omega
  have m4 : m ≤ 4 := by omega
  have em : (if (left : Int) - ((N.length : Int) - 1 - k) < 1 + d then (left : Int) - ((N.length : Int) - 1 - k) else 1 + d) = m := by
    split <;> omega
  obtain ⟨ws, τ2, w1, w2, w3, w4, w5⟩ := words_kind (m := m) τ1 m0 (by omega)
  obtain ⟨pe', τ', f1, C, v8, v9, v10, rfl, c1, c2⟩ := forV_all (tg := .nm 8) (fb := b__law_large_2 V__law_draw V__law_words)
    (fun j pe τ' => ∃ (C : List Col) (v8 v9 v10 : Option P), pe = [some .tape, some (.int 7), some (.lst (N.map P.str)), some (.int left), some (.own (T.map Tab.p)), some (.int k), some (.int m), some (.own (C.map Col.p)), v8, v9, v10, none] ∧ C.map Col.label = ws.take j ∧ ∀ c ∈ C, c.Ok)
    (ws.map P.str) [some .tape, some (.int 7), some (.lst (N.map P.str)), some (.int left), some (.own (T.map Tab.p)), some (.int k), some (.int m), some (.own []), e8, e9, e10, none] τ2 ⟨[], e8, e9, e10, rfl, by simp, by simp⟩ (by
      rintro j y pe τ' hy ⟨C, v8, v9, v10, rfl, g1, g2⟩
      rw [List.getElem?_map] at hy
      cases hcj : ws[j]? with
      | none => rw [hcj] at hy; cases hy
      | some x =>
        rw [hcj] at hy
        cases hy
        have hx := List.mem_of_getElem? hcj
        have gl := congrArg List.length g1
        rw [List.length_map, List.length_take] at gl
        obtain ⟨c, u9, u10, τ4, h1, h2, h3⟩ := large2_v (C := C) (lb := x) (e2 := some (.lst (N.map P.str))) (e3 := some (.int left)) (e4 := some (.own (T.map Tab.p))) (e5 := some (.int k)) (e6 := some (.int m)) (e9 := v9) (e10 := v10) τ' (by omega) (w5 x hx)
        refine ⟨_, _, τ4, rfl, h1, C ++ [c], some (.str x), u9, u10, rfl, ?_, fun z hz => ?_⟩
        · rw [List.map_append, g1, List.take_add_one, hcj, ← h3]
          rfl
        · rcases List.mem_append.mp hz with h | h
          · exact g2 z h
          · simp at h
            rw [h]
            exact h2)
  rw [List.length_map, List.take_length] at c1
  have cc := congrArg List.length c1
  rw [List.length_map] at cc
  obtain ⟨b, τ3, d3, hb⟩ := draw_lit τ' 2
  have lbg := line_big
  have c5 : C.length ≤ sizeLine := by omega
  have t5 : T.length < sizeLine := by omega
  have n5 : N.length ≤ sizeLine := by omega
  have an := at_map (f := P.str) hk
  have lm : (left : Int) - m = ((left - m : Nat) : Int) := by omega
  have ep : P.tup [.str n, .bl (decide (b = 0)), .tup (C.map Col.p)] = (Tab.mk n (decide (b = 0)) C).p := rfl
  have ec : (T ++ [Tab.mk n (decide (b = 0)) C]).map Tab.p = T.map Tab.p ++ [(Tab.mk n (decide (b = 0)) C).p] := by simp
  refine ⟨Tab.mk n (decide (b = 0)) C, left - m, some (.int m), some (.own (C.map Col.p)), v8, v9, v10, τ3, ?_, ⟨hn, c2, by rw [c1]; exact w4, fun e => by
    have e' : C = [] := e
    rw [e'] at cc
    simp at cc
    omega, by show C.length ≤ 24; omega⟩, rfl, by omega⟩
  rw [ec, ← ep]
  have mn2 : qMin2 [.int (1 + (d : Int)), .int ((left : Int) - ((N.length : Int) - 1 - k))] = some (.int m) := by rw [← em]; rfl
  simp only [b__law_large_1]
  generalize b__law_large_2 V__law_draw V__law_words = B2 at f1 ⊢
  try simp at f1
  simp [d1, mn2, w1, f1, n5, lm, an, d3, c5, t5]
end LW
namespace LW
open PySem PySem.Spec PyProof.Rows L2 RT RZ DL VL
set_option maxHeartbeats 4000000 in
theorem large_v (τ : Tau) : ∃ (ts : List Tab) (τ' : Tau), V__law_large [.tape, .int 7] τ = some (.ok (encT ts), τ') ∧ TabsOk ts := by
  obtain ⟨d, τ1, d1, hd⟩ := draw_lit τ 8
  obtain ⟨N, τ2, w1, w2, w3, w4, w5⟩ := words_kind (m := 1 + d) τ1 (by omega) (by omega)
  obtain ⟨pe', τ', f1, T, left, v5, v6, v7, v8, v9, v10, rfl, c1, c2, c3⟩ := forV_all (tg := .nm 5) (fb := b__law_large_1 V__law_draw V__law_words)
    (fun j pe τ' => ∃ (T : List Tab) (left : Nat) (v5 v6 v7 v8 v9 v10 : Option P), pe = [some .tape, some (.int 7), some (.lst (N.map P.str)), some (.int left), some (.own (T.map Tab.p)), v5, v6, v7, v8, v9, v10, none] ∧ T.map Tab.name = N.take j ∧ (∀ t ∈ T, t.Ok) ∧ N.length ≤ left + j)
    (rangeP 0 N.length) [some .tape, some (.int 7), some (.lst (N.map P.str)), some (.int (20 : Nat)), some (.own []), none, none, none, none, none, none, none] τ2 ⟨[], 20, none, none, none, none, none, none, rfl, by simp, by simp, by omega⟩ (by
      rintro j y pe τ' hy ⟨T, left, v5, v6, v7, v8, v9, v10, rfl, g1, g2, g3⟩
      obtain ⟨hj, rfl⟩ := rangeP_at hy
      have hk : N[j]? = some N[j] := List.getElem?_eq_getElem hj
      have gl := congrArg List.length g1
      rw [List.length_map, List.length_take] at gl
      obtain ⟨t, left', u6, u7, u8, u9, u10, τ4, h1, h2, h3, h4⟩ := large1_v (N := N) (left := left) (k := j) (T := T) (n := N[j]) (e5 := none) (e6 := v6) (e7 := v7) (e8 := v8) (e9 := v9) (e10 := v10) τ' hk g3 (w5 _ (List.getElem_mem hj)) (by omega) (by omega)
      refine ⟨_, _, τ4, rfl, h1, T ++ [t], left', some (.int j), u6, u7, u8, u9, u10, rfl, ?_, fun z hz => ?_, h4⟩
      · rw [List.map_append, g1, List.take_add_one, hk, ← h3]
        rfl
      · rcases List.mem_append.mp hz with h | h
        · exact g2 z h
        · simp at h
          rw [h]
          exact h2)
  rw [rangeP_len, List.take_length] at c1
  have cc := congrArg List.length c1
  rw [List.length_map] at cc
  have lbg := line_big
  have tl : T.length ≤ sizeLine := by omega
  have nl : N.length ≤ sizeLine := by omega
  have r : RgB (N.length : Int) := .of (by omega)
  refine ⟨T, τ', ?_, ⟨c2, by rw [c1]; exact w4, fun e => by
    rw [e] at cc
    simp at cc
    omega, by omega⟩⟩
  simp only [V__law_large, b__law_large]
  generalize b__law_large_1 V__law_draw V__law_words = B1 at f1 ⊢
  simp at f1 w1
  simp [d1, w1, nl, r, f1, tl, encT]
set_option maxHeartbeats 2000000 in
theorem any_tables_v (τ : Tau) : ∃ (ts : List Tab) (τ' : Tau), V__law_any_tables [.tape, .int 7] τ = some (.ok (encT ts), τ') ∧ TabsOk ts := by
  obtain ⟨d, τ1, d1, hd⟩ := draw_lit τ 8
  by_cases h0 : d = 0
  · subst h0
    obtain ⟨ts, τ2, h1, h2⟩ := large_v τ1
    refine ⟨ts, τ2, ?_, h2⟩
    simp at d1
    simp [V__law_any_tables, b__law_any_tables, d1, h1]
  · have h0' : ¬ (d : Int) = 0 := by omega
    have ep : ∃ M : Int, pPow (.int 10) (.int 9) = some (.int M) := ⟨_, pPow_int 10 9 (by omega) (by omega) (by decide)⟩
    obtain ⟨M, ep⟩ := ep
    obtain ⟨ts, τ2, h1, h2⟩ := tables_v (M := M) τ1
    refine ⟨ts, τ2, ?_, h2⟩
    simp [V__law_any_tables, b__law_any_tables, d1, h0, h0', ep, h1]
end LW
namespace LW
open PySem PySem.Spec PyProof.Rows L2 RT RZ DL VL
theorem V_holds_40 : V_holds = Vn_holds (39 + 1) := rfl
theorem V__law_holds_40 : V__law_holds = Vn__law_holds (39 + 1) := rfl
set_option maxHeartbeats 4000000 in
theorem law_true : ∀ ns : List Int, ns.length ≤ 63 → ∃ S', F_law [.ref 0] [.rol (ns.map D.int)] = some (.ok (.bl true), S') := law_of fun τ => by
  obtain ⟨d, τ1, d1, hd⟩ := draw_lit τ 4
  obtain ⟨L, τ2, d2, W⟩ := texts_v (tk := []) (many := d) τ1 (by omega) (by simp)
  obtain ⟨ts, τ3, d3, ok⟩ := any_tables_v τ2
  obtain ⟨VW, h4, -, wl, wo⟩ := value_words_v τ3 ok
  obtain ⟨dp, τ4, d4, hdp⟩ := draw_lit τ3 4
  have ea : atI [P.int 0, P.int 1, P.int 2, P.int 3] (dp : Int) = some (.int dp) := by
    have h : dp = 0 ∨ dp = 1 ∨ dp = 2 ∨ dp = 3 := by omega
    rcases h with rfl | rfl | rfl | rfl <;> rfl
  have lo : ∀ x ∈ L, SOk x := fun x hx => (W.ok x hx).1
  obtain ⟨c0, τ5, d5, p0, o0⟩ := condition_v (ts := ts) (pool := L) (W := VW) ⟨ok, by rw [W.len]; omega, wl, lo, wo⟩ 39 dp τ4 (by omega)
  obtain ⟨b, τ6, d6, hb⟩ := draw_lit τ5 8
  obtain ⟨c, τ7, hA, pc, oc⟩ : ∃ (c : Cond) (τ7 : Tau), (∀ e5 e6 e7 e8 e9 : Option P, vIfS (vBl (vOp pEq (vCall V__law_draw (vCons (vVar 1) (vCons (vC (.int 8)) vNil))) (vC (.int 0)))) (vAsg (.nm 4) (vCall V__law_deepened (vCons (vVar 1) (vCons (vVar 4) (vCons (vC (.int 6)) vNil))))) vNext [none, some .tape, some (.lst (L.map P.str)), some (encT ts), some c0.p, e5, e6, e7, e8, e9] τ5 = some (.nx, [none, some .tape, some (.lst (L.map P.str)), some (encT ts), some c.p, e5, e6, e7, e8, e9], τ7)) ∧ dep c ≤ 9 ∧ CondOk ts c := by
    by_cases b0 : b = 0
    · subst b0
      obtain ⟨c, τ7, e1, e2, e3⟩ := deepened_v (ts := ts) (c := c0) (m := 6) τ6 (by omega) o0
      refine ⟨c, τ7, fun e5 e6 e7 e8 e9 => ?_, by omega, e3⟩
      simp at d6 e1
      simp [d6, e1]
    · have b0' : ¬ (b : Int) = 0 := by omega
      exact ⟨c0, τ6, fun e5 e6 e7 e8 e9 => by simp [d6, b0, b0'], by omega, o0⟩
  obtain ⟨L2, τ8, d8, W2⟩ := texts_v (tk := L) (many := 2) τ7 (by omega) (by rw [W.len]; omega)
  have l2o : ∀ x ∈ L ++ L2, SOk x := fun x hx => by
    rcases List.mem_append.mp hx with h | h
    · exact lo x h
    · exact (W2.ok x h).1
  have l2l : L.length + L2.length ≤ sizeLine := by have := line_big; have := W.len; have := W2.len; omega
  obtain ⟨r, τ9, d9, F⟩ := shape_v (ts := ts) (texts := L ++ L2) τ8 ok l2o (by rw [List.length_append, W.len, W2.len]; omega)
  obtain ⟨v, hv⟩ := tr_ex F c oc
  have q1 := law_holds_v τ9 ok 39 c v (by omega) hv
  have q2 := holds_v τ9 ok 39 c v (by omega) hv
  have q3 := holds_v τ9 ok 39 (.nt c) (!v) (by show dep c + 1 ≤ 39; omega) (by show Tr ts r c (!!v); rw [Bool.not_not]; exact hv)
  have q3' : Vn_holds (39 + 1) [encT ts, .tup [.str (Str.ofString "not"), c.p], encR r] τ9 = some (.ok (.bl (!v)), τ9) := q3
  rw [← V_holds_40] at q2 q3'
  rw [← V__law_holds_40] at q1
  have e10 : (L ++ L2).map P.str = L.map P.str ++ L2.map P.str := by simp
  rw [e10] at d9
  show retT (V_law [none, some .tape, none, none, none, none, none, none, none, none] τ) = true
  simp only [V_law, b_law]
  have d5' : V__law_condition [.tape, encT ts, .lst (L.map P.str), .lst (VW.map P.str), .int dp] τ4 = some (.ok c0.p, τ5) := d5
  generalize V_holds = VH at *
  generalize V__law_holds = VLH at *
  generalize V__law_condition = VC at *
  generalize vIfS (vBl (vOp pEq (vCall V__law_draw (vCons (vVar 1) (vCons (vC (.int 8)) vNil))) (vC (.int 0)))) (vAsg (.nm 4) (vCall V__law_deepened (vCons (vVar 1) (vCons (vVar 4) (vCons (vC (.int 6)) vNil))))) vNext = SA at *
  simp at d2 d8
  cases v <;> simp [d1, d2, d3, h4, d4, ea, d5', hA, d8, pAdd, pCat, lstOf, l2l, d9, q1, q2, q3']
end LW
namespace LW
open PySem PySem.Spec PyProof.Rows L2 RT RZ DL
theorem all_mk {l : PySem.W.OpenLaw} {w : World} {K : PySem.W.Frag} {h : Heap} {mg : Str → Option Value} {fa f0 f1 f2 f3 f4 f5 f6 f7 f8 f9 f10 f11 f12 f13 f14 f15 f16 f17 f18 f19 f20 f21 f22 : Addr} (X : K.In h) (G : h.Ns mainGlobals mg) (hfa : mg "law" = some (.ref fa))
    {od0 an0 od1 an1 od2 an2 od3 an3 od4 an4 od5 an5 od6 an6 od7 an7 od8 an8 od9 an9 od10 an10 od11 an11 od12 an12 od13 an13 od14 an14 od15 an15 od16 an16 od17 an17 od18 an18 od19 an19 od20 an20 od21 an21 od22 an22 : Option Addr} {sl0 sl1 sl2 sl3 sl4 sl5 sl6 sl7 sl8 sl9 sl10 sl11 sl12 sl13 sl14 sl15 sl16 sl17 sl18 sl19 sl20 sl21 sl22 : Array (Option Value)} {oc0 kV0 dc0 pm0 cd0 ct0 oc1 kV1 dc1 pm1 cd1 ct1 oc2 kV2 dc2 pm2 cd2 ct2 oc3 kV3 dc3 pm3 cd3 ct3 oc4 kV4 dc4 pm4 cd4 ct4 oc5 kV5 dc5 pm5 cd5 ct5 oc6 kV6 dc6 pm6 cd6 ct6 oc7 kV7 dc7 pm7 cd7 ct7 oc8 kV8 dc8 pm8 cd8 ct8 oc9 kV9 dc9 pm9 cd9 ct9 oc10 kV10 dc10 pm10 cd10 ct10 oc11 kV11 dc11 pm11 cd11 ct11 oc12 kV12 dc12 pm12 cd12 ct12 oc13 kV13 dc13 pm13 cd13 ct13 oc14 kV14 dc14 pm14 cd14 ct14 oc15 kV15 dc15 pm15 cd15 ct15 oc16 kV16 dc16 pm16 cd16 ct16 oc17 kV17 dc17 pm17 cd17 ct17 oc18 kV18 dc18 pm18 cd18 ct18 oc19 kV19 dc19 pm19 cd19 ct19 oc20 kV20 dc20 pm20 cd20 ct20 oc21 kV21 dc21 pm21 cd21 ct21 oc22 kV22 dc22 pm22 cd22 ct22 : Value}
    (a0 : PySem.W.nsIn K mainGlobals "table_place" = some (some (.ref f0))) (l0 : K.lookup f0 = some ⟨oc0, od0, .func (PySem.W.fnOf "table_place" "table_place" (defArgs s_table_place) (defBody s_table_place) (defScope s_table_place) .none kV0 dc0 pm0 an0 cd0 ct0), sl0⟩) (c0 : PySem.W.codeIn K cd0 "table_place" = true) (k0 : PySem.W.keepIn K (.ref f0) = true)
    (a1 : PySem.W.nsIn K mainGlobals "column_place" = some (some (.ref f1))) (l1 : K.lookup f1 = some ⟨oc1, od1, .func (PySem.W.fnOf "column_place" "column_place" (defArgs s_column_place) (defBody s_column_place) (defScope s_column_place) .none kV1 dc1 pm1 an1 cd1 ct1), sl1⟩) (c1 : PySem.W.codeIn K cd1 "column_place" = true) (k1 : PySem.W.keepIn K (.ref f1) = true)
    (a2 : PySem.W.nsIn K mainGlobals "cell_at" = some (some (.ref f2))) (l2 : K.lookup f2 = some ⟨oc2, od2, .func (PySem.W.fnOf "cell_at" "cell_at" (defArgs s_cell_at) (defBody s_cell_at) (defScope s_cell_at) .none kV2 dc2 pm2 an2 cd2 ct2), sl2⟩) (c2 : PySem.W.codeIn K cd2 "cell_at" = true) (k2 : PySem.W.keepIn K (.ref f2) = true)
    (a3 : PySem.W.nsIn K mainGlobals "holds" = some (some (.ref f3))) (l3 : K.lookup f3 = some ⟨oc3, od3, .func (PySem.W.fnOf "holds" "holds" (defArgs s_holds) (defBody s_holds) (defScope s_holds) .none kV3 dc3 pm3 an3 cd3 ct3), sl3⟩) (c3 : PySem.W.codeIn K cd3 "holds" = true) (k3 : PySem.W.keepIn K (.ref f3) = true)
    (a4 : PySem.W.nsIn K mainGlobals "_law_tape" = some (some (.ref f4))) (l4 : K.lookup f4 = some ⟨oc4, od4, .func (PySem.W.fnOf "_law_tape" "_law_tape" (defArgs s__law_tape) (defBody s__law_tape) (defScope s__law_tape) .none kV4 dc4 pm4 an4 cd4 ct4), sl4⟩) (c4 : PySem.W.codeIn K cd4 "_law_tape" = true) (k4 : PySem.W.keepIn K (.ref f4) = true)
    (a5 : PySem.W.nsIn K mainGlobals "_law_draw" = some (some (.ref f5))) (l5 : K.lookup f5 = some ⟨oc5, od5, .func (PySem.W.fnOf "_law_draw" "_law_draw" (defArgs s__law_draw) (defBody s__law_draw) (defScope s__law_draw) .none kV5 dc5 pm5 an5 cd5 ct5), sl5⟩) (c5 : PySem.W.codeIn K cd5 "_law_draw" = true) (k5 : PySem.W.keepIn K (.ref f5) = true)
    (a6 : PySem.W.nsIn K mainGlobals "_law_reserved" = some (some (.ref f6))) (l6 : K.lookup f6 = some ⟨oc6, od6, .func (PySem.W.fnOf "_law_reserved" "_law_reserved" (defArgs s__law_reserved) (defBody s__law_reserved) (defScope s__law_reserved) .none kV6 dc6 pm6 an6 cd6 ct6), sl6⟩) (c6 : PySem.W.codeIn K cd6 "_law_reserved" = true) (k6 : PySem.W.keepIn K (.ref f6) = true)
    (a7 : PySem.W.nsIn K mainGlobals "_law_words" = some (some (.ref f7))) (l7 : K.lookup f7 = some ⟨oc7, od7, .func (PySem.W.fnOf "_law_words" "_law_words" (defArgs s__law_words) (defBody s__law_words) (defScope s__law_words) .none kV7 dc7 pm7 an7 cd7 ct7), sl7⟩) (c7 : PySem.W.codeIn K cd7 "_law_words" = true) (k7 : PySem.W.keepIn K (.ref f7) = true)
    (a8 : PySem.W.nsIn K mainGlobals "_law_text" = some (some (.ref f8))) (l8 : K.lookup f8 = some ⟨oc8, od8, .func (PySem.W.fnOf "_law_text" "_law_text" (defArgs s__law_text) (defBody s__law_text) (defScope s__law_text) .none kV8 dc8 pm8 an8 cd8 ct8), sl8⟩) (c8 : PySem.W.codeIn K cd8 "_law_text" = true) (k8 : PySem.W.keepIn K (.ref f8) = true)
    (a9 : PySem.W.nsIn K mainGlobals "_law_texts" = some (some (.ref f9))) (l9 : K.lookup f9 = some ⟨oc9, od9, .func (PySem.W.fnOf "_law_texts" "_law_texts" (defArgs s__law_texts) (defBody s__law_texts) (defScope s__law_texts) .none kV9 dc9 pm9 an9 cd9 ct9), sl9⟩) (c9 : PySem.W.codeIn K cd9 "_law_texts" = true) (k9 : PySem.W.keepIn K (.ref f9) = true)
    (a10 : PySem.W.nsIn K mainGlobals "_law_many" = some (some (.ref f10))) (l10 : K.lookup f10 = some ⟨oc10, od10, .func (PySem.W.fnOf "_law_many" "_law_many" (defArgs s__law_many) (defBody s__law_many) (defScope s__law_many) .none kV10 dc10 pm10 an10 cd10 ct10), sl10⟩) (c10 : PySem.W.codeIn K cd10 "_law_many" = true) (k10 : PySem.W.keepIn K (.ref f10) = true)
    (a11 : PySem.W.nsIn K mainGlobals "_law_textual" = some (some (.ref f11))) (l11 : K.lookup f11 = some ⟨oc11, od11, .func (PySem.W.fnOf "_law_textual" "_law_textual" (defArgs s__law_textual) (defBody s__law_textual) (defScope s__law_textual) .none kV11 dc11 pm11 an11 cd11 ct11), sl11⟩) (c11 : PySem.W.codeIn K cd11 "_law_textual" = true) (k11 : PySem.W.keepIn K (.ref f11) = true)
    (a12 : PySem.W.nsIn K mainGlobals "_law_tables" = some (some (.ref f12))) (l12 : K.lookup f12 = some ⟨oc12, od12, .func (PySem.W.fnOf "_law_tables" "_law_tables" (defArgs s__law_tables) (defBody s__law_tables) (defScope s__law_tables) .none kV12 dc12 pm12 an12 cd12 ct12), sl12⟩) (c12 : PySem.W.codeIn K cd12 "_law_tables" = true) (k12 : PySem.W.keepIn K (.ref f12) = true)
    (a13 : PySem.W.nsIn K mainGlobals "_law_value_words" = some (some (.ref f13))) (l13 : K.lookup f13 = some ⟨oc13, od13, .func (PySem.W.fnOf "_law_value_words" "_law_value_words" (defArgs s__law_value_words) (defBody s__law_value_words) (defScope s__law_value_words) .none kV13 dc13 pm13 an13 cd13 ct13), sl13⟩) (c13 : PySem.W.codeIn K cd13 "_law_value_words" = true) (k13 : PySem.W.keepIn K (.ref f13) = true)
    (a14 : PySem.W.nsIn K mainGlobals "_law_operand" = some (some (.ref f14))) (l14 : K.lookup f14 = some ⟨oc14, od14, .func (PySem.W.fnOf "_law_operand" "_law_operand" (defArgs s__law_operand) (defBody s__law_operand) (defScope s__law_operand) .none kV14 dc14 pm14 an14 cd14 ct14), sl14⟩) (c14 : PySem.W.codeIn K cd14 "_law_operand" = true) (k14 : PySem.W.keepIn K (.ref f14) = true)
    (a15 : PySem.W.nsIn K mainGlobals "_law_condition" = some (some (.ref f15))) (l15 : K.lookup f15 = some ⟨oc15, od15, .func (PySem.W.fnOf "_law_condition" "_law_condition" (defArgs s__law_condition) (defBody s__law_condition) (defScope s__law_condition) .none kV15 dc15 pm15 an15 cd15 ct15), sl15⟩) (c15 : PySem.W.codeIn K cd15 "_law_condition" = true) (k15 : PySem.W.keepIn K (.ref f15) = true)
    (a16 : PySem.W.nsIn K mainGlobals "_law_shape" = some (some (.ref f16))) (l16 : K.lookup f16 = some ⟨oc16, od16, .func (PySem.W.fnOf "_law_shape" "_law_shape" (defArgs s__law_shape) (defBody s__law_shape) (defScope s__law_shape) .none kV16 dc16 pm16 an16 cd16 ct16), sl16⟩) (c16 : PySem.W.codeIn K cd16 "_law_shape" = true) (k16 : PySem.W.keepIn K (.ref f16) = true)
    (a17 : PySem.W.nsIn K mainGlobals "_law_cell" = some (some (.ref f17))) (l17 : K.lookup f17 = some ⟨oc17, od17, .func (PySem.W.fnOf "_law_cell" "_law_cell" (defArgs s__law_cell) (defBody s__law_cell) (defScope s__law_cell) .none kV17 dc17 pm17 an17 cd17 ct17), sl17⟩) (c17 : PySem.W.codeIn K cd17 "_law_cell" = true) (k17 : PySem.W.keepIn K (.ref f17) = true)
    (a18 : PySem.W.nsIn K mainGlobals "_law_holds" = some (some (.ref f18))) (l18 : K.lookup f18 = some ⟨oc18, od18, .func (PySem.W.fnOf "_law_holds" "_law_holds" (defArgs s__law_holds) (defBody s__law_holds) (defScope s__law_holds) .none kV18 dc18 pm18 an18 cd18 ct18), sl18⟩) (c18 : PySem.W.codeIn K cd18 "_law_holds" = true) (k18 : PySem.W.keepIn K (.ref f18) = true)
    (a19 : PySem.W.nsIn K mainGlobals "_law_deepened" = some (some (.ref f19))) (l19 : K.lookup f19 = some ⟨oc19, od19, .func (PySem.W.fnOf "_law_deepened" "_law_deepened" (defArgs s__law_deepened) (defBody s__law_deepened) (defScope s__law_deepened) .none kV19 dc19 pm19 an19 cd19 ct19), sl19⟩) (c19 : PySem.W.codeIn K cd19 "_law_deepened" = true) (k19 : PySem.W.keepIn K (.ref f19) = true)
    (a20 : PySem.W.nsIn K mainGlobals "_law_large" = some (some (.ref f20))) (l20 : K.lookup f20 = some ⟨oc20, od20, .func (PySem.W.fnOf "_law_large" "_law_large" (defArgs s__law_large) (defBody s__law_large) (defScope s__law_large) .none kV20 dc20 pm20 an20 cd20 ct20), sl20⟩) (c20 : PySem.W.codeIn K cd20 "_law_large" = true) (k20 : PySem.W.keepIn K (.ref f20) = true)
    (a21 : PySem.W.nsIn K mainGlobals "_law_any_tables" = some (some (.ref f21))) (l21 : K.lookup f21 = some ⟨oc21, od21, .func (PySem.W.fnOf "_law_any_tables" "_law_any_tables" (defArgs s__law_any_tables) (defBody s__law_any_tables) (defScope s__law_any_tables) .none kV21 dc21 pm21 an21 cd21 ct21), sl21⟩) (c21 : PySem.W.codeIn K cd21 "_law_any_tables" = true) (k21 : PySem.W.keepIn K (.ref f21) = true)
    (a22 : PySem.W.nsIn K mainGlobals "law" = some (some (.ref f22))) (l22 : K.lookup f22 = some ⟨oc22, od22, .func (PySem.W.fnOf "law" "law" (defArgs s_law) (defBody s_law) (defScope s_law) .none kV22 dc22 pm22 an22 cd22 ct22), sl22⟩) (c22 : PySem.W.codeIn K cd22 "law" = true) (k22 : PySem.W.keepIn K (.ref f22) = true)
    (z_enumerate : PySem.W.nsIn K mainGlobals "enumerate" = some none) (z_list : PySem.W.nsIn K mainGlobals "list" = some none) (z_int : PySem.W.nsIn K mainGlobals "int" = some none) (z_abs : PySem.W.nsIn K mainGlobals "abs" = some none) (z_max : PySem.W.nsIn K mainGlobals "max" = some none) (z_len : PySem.W.nsIn K mainGlobals "len" = some none) (z_range : PySem.W.nsIn K mainGlobals "range" = some none) (z_str : PySem.W.nsIn K mainGlobals "str" = some none) (z_sum : PySem.W.nsIn K mainGlobals "sum" = some none) (z_tuple : PySem.W.nsIn K mainGlobals "tuple" = some none) (z_min : PySem.W.nsIn K mainGlobals "min" = some none) (z_isinstance : PySem.W.nsIn K mainGlobals "isinstance" = some none) (z_bool : PySem.W.nsIn K mainGlobals "bool" = some none) :
    ∃ fd : FuncData, (∀ (s : Shared) (v : Value), BindsTo s fd ⟨[v], []⟩ [("_law_script", v)]) ∧ ∀ base : Heap, K.In base → base.Ns mainGlobals mg → FnOk l.prog w K mg base (L2.CX l.prog w) 43 fa fd ["_law_script"] (spLaw K) := by
  have e := hfa.symm.trans (PySem.W.mg_of X G a22)
  cases e
  have T : Txt mg := ⟨PySem.W.mg_none_of X G z_enumerate, PySem.W.mg_none_of X G z_list, PySem.W.mg_none_of X G z_int, PySem.W.mg_none_of X G z_abs, PySem.W.mg_none_of X G z_max, PySem.W.mg_none_of X G z_len, PySem.W.mg_none_of X G z_range, PySem.W.mg_none_of X G z_str, PySem.W.mg_none_of X G z_sum, PySem.W.mg_none_of X G z_tuple, PySem.W.mg_none_of X G z_min, PySem.W.mg_none_of X G z_isinstance, PySem.W.mg_none_of X G z_bool⟩
  have F0 := fun_mk (st := s_table_place) l0 c0 k0
  have F1 := fun_mk (st := s_column_place) l1 c1 k1
  have F2 := fun_mk (st := s_cell_at) l2 c2 k2
  have F3 := fun_mk (st := s_holds) l3 c3 k3
  have F4 := fun_mk (st := s__law_tape) l4 c4 k4
  have F5 := fun_mk (st := s__law_draw) l5 c5 k5
  have F6 := fun_mk (st := s__law_reserved) l6 c6 k6
  have F7 := fun_mk (st := s__law_words) l7 c7 k7
  have F8 := fun_mk (st := s__law_text) l8 c8 k8
  have F9 := fun_mk (st := s__law_texts) l9 c9 k9
  have F10 := fun_mk (st := s__law_many) l10 c10 k10
  have F11 := fun_mk (st := s__law_textual) l11 c11 k11
  have F12 := fun_mk (st := s__law_tables) l12 c12 k12
  have F13 := fun_mk (st := s__law_value_words) l13 c13 k13
  have F14 := fun_mk (st := s__law_operand) l14 c14 k14
  have F15 := fun_mk (st := s__law_condition) l15 c15 k15
  have F16 := fun_mk (st := s__law_shape) l16 c16 k16
  have F17 := fun_mk (st := s__law_cell) l17 c17 k17
  have F18 := fun_mk (st := s__law_holds) l18 c18 k18
  have F19 := fun_mk (st := s__law_deepened) l19 c19 k19
  have F20 := fun_mk (st := s__law_large) l20 c20 k20
  have F21 := fun_mk (st := s__law_any_tables) l21 c21 k21
  have F22 := fun_mk (st := s_law) l22 c22 k22
  refine ⟨PySem.W.fnOf "law" "law" (defArgs s_law) (defBody s_law) (defScope s_law) .none kV22 dc22 pm22 an22 cd22 ct22, fun s v => .of_eq rfl, fun base _ _ => ?_⟩
  have C_table_place : Cal l.prog w K mg base "table_place" 1 ["tables", "name"] F_table_place := (cal_mk (P := l.prog) (w := w) (base := base) F0 (PySem.W.mg_of X G a0) (ok_table_place T F0) (F0.binds (ps := ["tables", "name"]) fun _ _ _ _ _ _ us hl => match us, hl with | [_, _], _ => rfl))
  have C_column_place : Cal l.prog w K mg base "column_place" 1 ["table", "name"] F_column_place := (cal_mk (P := l.prog) (w := w) (base := base) F1 (PySem.W.mg_of X G a1) (ok_column_place T F1) (F1.binds (ps := ["table", "name"]) fun _ _ _ _ _ _ us hl => match us, hl with | [_, _], _ => rfl))
  have C_cell_at : Cal l.prog w K mg base "cell_at" 2 ["tables", "operand", "record"] F_cell_at := (cal_mk (P := l.prog) (w := w) (base := base) F2 (PySem.W.mg_of X G a2) (ok_cell_at T C_column_place C_table_place F2) (F2.binds (ps := ["tables", "operand", "record"]) fun _ _ _ _ _ _ us hl => match us, hl with | [_, _, _], _ => rfl))
  have C_holds : Cal l.prog w K mg base "holds" 42 ["tables", "condition", "record"] F_holds := cal_rec (b := 2) (cal_none F3 (PySem.W.mg_of X G a3) (F3.binds (ps := ["tables", "condition", "record"]) fun _ _ _ _ _ _ us hl => match us, hl with | [_, _, _], _ => rfl)) (fun n m C_holds => (cal_mk (P := l.prog) (w := w) (base := base) F3 (PySem.W.mg_of X G a3) (ok_holds T C_table_place C_holds C_cell_at F3) (F3.binds (ps := ["tables", "condition", "record"]) fun _ _ _ _ _ _ us hl => match us, hl with | [_, _, _], _ => rfl))) rfl (fun _ => rfl) 40
  have C__law_tape : Cal l.prog w K mg base "_law_tape" 1 ["_law_script"] F__law_tape := (cal_mk (P := l.prog) (w := w) (base := base) F4 (PySem.W.mg_of X G a4) (ok__law_tape T F4) (F4.binds (ps := ["_law_script"]) fun _ _ _ _ _ _ us hl => match us, hl with | [_], _ => rfl))
  have C__law_draw : Cal l.prog w K mg base "_law_draw" 1 ["_law_tape_here", "_law_many_here"] F__law_draw := (cal_mk (P := l.prog) (w := w) (base := base) F5 (PySem.W.mg_of X G a5) (ok__law_draw T F5) (F5.binds (ps := ["_law_tape_here", "_law_many_here"]) fun _ _ _ _ _ _ us hl => match us, hl with | [_, _], _ => rfl))
  have C__law_reserved : Cal l.prog w K mg base "_law_reserved" 1 [] F__law_reserved := (cal_mk (P := l.prog) (w := w) (base := base) F6 (PySem.W.mg_of X G a6) (ok__law_reserved T F6) (F6.binds (ps := []) fun _ _ _ _ _ _ us hl => match us, hl with | [], _ => rfl))
  have C__law_words : Cal l.prog w K mg base "_law_words" 2 ["_law_tape_here", "_law_many_here", "_law_taken"] F__law_words := (cal_mk (P := l.prog) (w := w) (base := base) F7 (PySem.W.mg_of X G a7) (ok__law_words T C__law_reserved C__law_draw F7) (F7.binds (ps := ["_law_tape_here", "_law_many_here", "_law_taken"]) fun _ _ _ _ _ _ us hl => match us, hl with | [_, _, _], _ => rfl))
  have C__law_text : Cal l.prog w K mg base "_law_text" 2 ["_law_tape_here"] F__law_text := (cal_mk (P := l.prog) (w := w) (base := base) F8 (PySem.W.mg_of X G a8) (ok__law_text T C__law_draw F8) (F8.binds (ps := ["_law_tape_here"]) fun _ _ _ _ _ _ us hl => match us, hl with | [_], _ => rfl))
  have C__law_texts : Cal l.prog w K mg base "_law_texts" 3 ["_law_tape_here", "_law_many_here", "_law_taken"] F__law_texts := (cal_mk (P := l.prog) (w := w) (base := base) F9 (PySem.W.mg_of X G a9) (ok__law_texts T C__law_text F9) (F9.binds (ps := ["_law_tape_here", "_law_many_here", "_law_taken"]) fun _ _ _ _ _ _ us hl => match us, hl with | [_, _, _], _ => rfl))
  have C__law_many : Cal l.prog w K mg base "_law_many" 1 ["_law_tables_here", "_law_many_here"] F__law_many := (cal_mk (P := l.prog) (w := w) (base := base) F10 (PySem.W.mg_of X G a10) (ok__law_many T F10) (F10.binds (ps := ["_law_tables_here", "_law_many_here"]) fun _ _ _ _ _ _ us hl => match us, hl with | [_, _], _ => rfl))
  have C__law_textual : Cal l.prog w K mg base "_law_textual" 1 ["_law_tables_here"] F__law_textual := (cal_mk (P := l.prog) (w := w) (base := base) F11 (PySem.W.mg_of X G a11) (ok__law_textual T F11) (F11.binds (ps := ["_law_tables_here"]) fun _ _ _ _ _ _ us hl => match us, hl with | [_], _ => rfl))
  have C__law_tables : Cal l.prog w K mg base "_law_tables" 3 ["_law_tape_here", "_law_most", "_law_many_here", "_law_width"] F__law_tables := (cal_mk (P := l.prog) (w := w) (base := base) F12 (PySem.W.mg_of X G a12) (ok__law_tables T C__law_words C__law_draw C__law_many C__law_textual F12) (F12.binds (ps := ["_law_tape_here", "_law_most", "_law_many_here", "_law_width"]) fun _ _ _ _ _ _ us hl => match us, hl with | [_, _, _, _], _ => rfl))
  have C__law_value_words : Cal l.prog w K mg base "_law_value_words" 1 ["_law_tables_here"] F__law_value_words := (cal_mk (P := l.prog) (w := w) (base := base) F13 (PySem.W.mg_of X G a13) (ok__law_value_words T F13) (F13.binds (ps := ["_law_tables_here"]) fun _ _ _ _ _ _ us hl => match us, hl with | [_], _ => rfl))
  have C__law_operand : Cal l.prog w K mg base "_law_operand" 2 ["_law_tape_here", "_law_tables_here", "_law_pool", "_law_words_here", "_law_textual_here"] F__law_operand := (cal_mk (P := l.prog) (w := w) (base := base) F14 (PySem.W.mg_of X G a14) (ok__law_operand T C__law_draw F14) (F14.binds (ps := ["_law_tape_here", "_law_tables_here", "_law_pool", "_law_words_here", "_law_textual_here"]) fun _ _ _ _ _ _ us hl => match us, hl with | [_, _, _, _, _], _ => rfl))
  have C__law_condition : Cal l.prog w K mg base "_law_condition" 42 ["_law_tape_here", "_law_tables_here", "_law_pool", "_law_words_here", "_law_deep"] F__law_condition := cal_rec (b := 2) (cal_none F15 (PySem.W.mg_of X G a15) (F15.binds (ps := ["_law_tape_here", "_law_tables_here", "_law_pool", "_law_words_here", "_law_deep"]) fun _ _ _ _ _ _ us hl => match us, hl with | [_, _, _, _, _], _ => rfl)) (fun n m C__law_condition => (cal_mk (P := l.prog) (w := w) (base := base) F15 (PySem.W.mg_of X G a15) (ok__law_condition T C__law_operand C__law_draw C__law_textual C__law_condition F15) (F15.binds (ps := ["_law_tape_here", "_law_tables_here", "_law_pool", "_law_words_here", "_law_deep"]) fun _ _ _ _ _ _ us hl => match us, hl with | [_, _, _, _, _], _ => rfl))) rfl (fun _ => rfl) 40
  have C__law_shape : Cal l.prog w K mg base "_law_shape" 2 ["_law_tape_here", "_law_tables_here", "_law_texts_here"] F__law_shape := (cal_mk (P := l.prog) (w := w) (base := base) F16 (PySem.W.mg_of X G a16) (ok__law_shape T C__law_draw F16) (F16.binds (ps := ["_law_tape_here", "_law_tables_here", "_law_texts_here"]) fun _ _ _ _ _ _ us hl => match us, hl with | [_, _, _], _ => rfl))
  have C__law_cell : Cal l.prog w K mg base "_law_cell" 1 ["_law_tables_here", "_law_operand_here", "_law_record"] F__law_cell := (cal_mk (P := l.prog) (w := w) (base := base) F17 (PySem.W.mg_of X G a17) (ok__law_cell T F17) (F17.binds (ps := ["_law_tables_here", "_law_operand_here", "_law_record"]) fun _ _ _ _ _ _ us hl => match us, hl with | [_, _, _], _ => rfl))
  have C__law_holds : Cal l.prog w K mg base "_law_holds" 41 ["_law_tables_here", "_law_condition_here", "_law_record"] F__law_holds := cal_rec (b := 1) (cal_none F18 (PySem.W.mg_of X G a18) (F18.binds (ps := ["_law_tables_here", "_law_condition_here", "_law_record"]) fun _ _ _ _ _ _ us hl => match us, hl with | [_, _, _], _ => rfl)) (fun n m C__law_holds => (cal_mk (P := l.prog) (w := w) (base := base) F18 (PySem.W.mg_of X G a18) (ok__law_holds T C__law_holds C__law_cell F18) (F18.binds (ps := ["_law_tables_here", "_law_condition_here", "_law_record"]) fun _ _ _ _ _ _ us hl => match us, hl with | [_, _, _], _ => rfl))) rfl (fun _ => rfl) 40
  have C__law_deepened : Cal l.prog w K mg base "_law_deepened" 2 ["_law_tape_here", "_law_condition_here", "_law_many_here"] F__law_deepened := (cal_mk (P := l.prog) (w := w) (base := base) F19 (PySem.W.mg_of X G a19) (ok__law_deepened T C__law_draw F19) (F19.binds (ps := ["_law_tape_here", "_law_condition_here", "_law_many_here"]) fun _ _ _ _ _ _ us hl => match us, hl with | [_, _, _], _ => rfl))
  have C__law_large : Cal l.prog w K mg base "_law_large" 3 ["_law_tape_here", "_law_widest"] F__law_large := (cal_mk (P := l.prog) (w := w) (base := base) F20 (PySem.W.mg_of X G a20) (ok__law_large T C__law_draw C__law_words F20) (F20.binds (ps := ["_law_tape_here", "_law_widest"]) fun _ _ _ _ _ _ us hl => match us, hl with | [_, _], _ => rfl))
  have C__law_any_tables : Cal l.prog w K mg base "_law_any_tables" 4 ["_law_tape_here", "_law_widest"] F__law_any_tables := (cal_mk (P := l.prog) (w := w) (base := base) F21 (PySem.W.mg_of X G a21) (ok__law_any_tables T C__law_tables C__law_draw C__law_large F21) (F21.binds (ps := ["_law_tape_here", "_law_widest"]) fun _ _ _ _ _ _ us hl => match us, hl with | [_, _], _ => rfl))
  exact (ok_law T C_holds C__law_holds C__law_shape C__law_texts C__law_draw C__law_deepened C__law_condition C__law_value_words C__law_any_tables C__law_tape F22).imp (spLaw_imp law_true)
end LW
open PySem PySem.W PyProof.Rows in
set_option maxRecDepth 100000 in
set_option maxHeartbeats 0 in
theorem PySem.Challenge.cw_migraproof_k09_condition_holds_holds : PySem.Challenge.rw_migraproof_k09_condition_holds.Holds := by
  w_on; o_law; k_head; (case hw => w_witness2)
  k_fill
  refine L2.walk_of (l := PySem.Challenge.rw_migraproof_k09_condition_holds) (n := 63) (k := 43) (x := "_law_script") (CX := fun w => L2.CX PySem.Challenge.rw_migraproof_k09_condition_holds.prog w) (sp := fun w => DL.spLaw _) rfl (by decide) rfl ⟨rfl, by decide, by decide⟩ (fun w h Y => PySem.W.kIn_of Y) ?F (fun _ _ a ns hl ho hS => ⟨a, ns, rfl, hl, ho, hS, fun _ => rfl⟩) (fun _ _ _ _ _ h => DL.cxF h)
  case F =>
    intro w mg fa h KX G hmg
    refine' LW.all_mk KX G hmg ?a0 ?l0 ?c0 ?k0 ?a1 ?l1 ?c1 ?k1 ?a2 ?l2 ?c2 ?k2 ?a3 ?l3 ?c3 ?k3 ?a4 ?l4 ?c4 ?k4 ?a5 ?l5 ?c5 ?k5 ?a6 ?l6 ?c6 ?k6 ?a7 ?l7 ?c7 ?k7 ?a8 ?l8 ?c8 ?k8 ?a9 ?l9 ?c9 ?k9 ?a10 ?l10 ?c10 ?k10 ?a11 ?l11 ?c11 ?k11 ?a12 ?l12 ?c12 ?k12 ?a13 ?l13 ?c13 ?k13 ?a14 ?l14 ?c14 ?k14 ?a15 ?l15 ?c15 ?k15 ?a16 ?l16 ?c16 ?k16 ?a17 ?l17 ?c17 ?k17 ?a18 ?l18 ?c18 ?k18 ?a19 ?l19 ?c19 ?k19 ?a20 ?l20 ?c20 ?k20 ?a21 ?l21 ?c21 ?k21 ?a22 ?l22 ?c22 ?k22 ?z_enumerate ?z_list ?z_int ?z_abs ?z_max ?z_len ?z_range ?z_str ?z_sum ?z_tuple ?z_min ?z_isinstance ?z_bool
    (case a0 => k_is)
    (case l0 => k_is)
    (case c0 => k_is)
    (case k0 => k_is)
    (case a1 => k_is)
    (case l1 => k_is)
    (case c1 => k_is)
    (case k1 => k_is)
    (case a2 => k_is)
    (case l2 => k_is)
    (case c2 => k_is)
    (case k2 => k_is)
    (case a3 => k_is)
    (case l3 => k_is)
    (case c3 => k_is)
    (case k3 => k_is)
    (case a4 => k_is)
    (case l4 => k_is)
    (case c4 => k_is)
    (case k4 => k_is)
    (case a5 => k_is)
    (case l5 => k_is)
    (case c5 => k_is)
    (case k5 => k_is)
    (case a6 => k_is)
    (case l6 => k_is)
    (case c6 => k_is)
    (case k6 => k_is)
    (case a7 => k_is)
    (case l7 => k_is)
    (case c7 => k_is)
    (case k7 => k_is)
    (case a8 => k_is)
    (case l8 => k_is)
    (case c8 => k_is)
    (case k8 => k_is)
    (case a9 => k_is)
    (case l9 => k_is)
    (case c9 => k_is)
    (case k9 => k_is)
    (case a10 => k_is)
    (case l10 => k_is)
    (case c10 => k_is)
    (case k10 => k_is)
    (case a11 => k_is)
    (case l11 => k_is)
    (case c11 => k_is)
    (case k11 => k_is)
    (case a12 => k_is)
    (case l12 => k_is)
    (case c12 => k_is)
    (case k12 => k_is)
    (case a13 => k_is)
    (case l13 => k_is)
    (case c13 => k_is)
    (case k13 => k_is)
    (case a14 => k_is)
    (case l14 => k_is)
    (case c14 => k_is)
    (case k14 => k_is)
    (case a15 => k_is)
    (case l15 => k_is)
    (case c15 => k_is)
    (case k15 => k_is)
    (case a16 => k_is)
    (case l16 => k_is)
    (case c16 => k_is)
    (case k16 => k_is)
    (case a17 => k_is)
    (case l17 => k_is)
    (case c17 => k_is)
    (case k17 => k_is)
    (case a18 => k_is)
    (case l18 => k_is)
    (case c18 => k_is)
    (case k18 => k_is)
    (case a19 => k_is)
    (case l19 => k_is)
    (case c19 => k_is)
    (case k19 => k_is)
    (case a20 => k_is)
    (case l20 => k_is)
    (case c20 => k_is)
    (case k20 => k_is)
    (case a21 => k_is)
    (case l21 => k_is)
    (case c21 => k_is)
    (case k21 => k_is)
    (case a22 => k_is)
    (case l22 => k_is)
    (case c22 => k_is)
    (case k22 => k_is)
    (case z_enumerate => k_is)
    (case z_list => k_is)
    (case z_int => k_is)
    (case z_abs => k_is)
    (case z_max => k_is)
    (case z_len => k_is)
    (case z_range => k_is)
    (case z_str => k_is)
    (case z_sum => k_is)
    (case z_tuple => k_is)
    (case z_min => k_is)
    (case z_isinstance => k_is)
    (case z_bool => k_is)
