import PyProof.Rows.All
import Wide.All
import OpenK.AllK
import Wide.FinOn
import HandS.ForMost
import HandS.Flow
import HandS.Exc
import HandS.WordsExc
import HandS.Rev
import HandS.Zip
import HandS.ExcCtx
import HandS.TupAny
import HandS.Wide
import HandS.IsInst
import HandS.RaiseMore
import KE.GoesMore
import HandS.Defaults
import HandS.SetFor
import HandS.TupSets
import PyProof.Rows.SortShellAny
import HandS.Dict
import HandS.NoneIn
import HandS.Small
import HandS.Conv
import KE.KDictKeyed
import HandS.More
import HandS.WordsDict
import KE.KDictPairs
import KE.KDictZip
import HandS.Deep
import HandS.Iter
import HandS.ExcValue
import HandS.ExcField
import HandS.ExcIs
import KE.KExcIs
import KE.KExcSuper
import HandS.ExcInit
import HandS.RevRange
import HandS.HotCalls
import HandS.SortKw
import PyProof.ReprRoads
import HandS.Ends
import HandS.EndBits
import PyProof.CallFns
import PySem.Challenge.RW_migraproof_k79_text_rows_in_order
import HandS.Text
import PyProof.StrLawsRepr
import PyProof.ReprLen
set_option Elab.async false
set_option linter.all false
set_option maxRecDepth 100000
namespace DL
open PySem PySem.Spec PyProof.Rows L2
/-! ### data, the store, answers -/
inductive D where
  | non | bl (b : Bool) | int (i : Int) | str (x : Str) | tup (l : List D) | ref (n : Nat)
/-- an exception: its class, its own fields -/
structure Exn where
  cls : Str
  args : Option (List (Str × D))
inductive O where
  | lst (l : List D) | rol (l : List D) | dct (l : List (D × D)) | rot (l : List D) | exn (x : Exn)
abbrev Sto := List O
abbrev Ev := List (Option D)
inductive R (α : Type) where
  | ok (a : α) | ex (e : Exn)
abbrev Ans (α : Type) := Option (R α × Sto)
def bindR {α β : Type} (x : Ans α) (k : α → Sto → Ans β) : Ans β := match x with
  | none => none
  | some (.ex e, S) => some (.ex e, S)
  | some (.ok a, S) => k a S
def okO {α : Type} (x : Option (α × Sto)) : Ans α := match x with
  | none => none
  | some (a, S) => some (.ok a, S)
def O.mut : O → Bool
  | .lst _ => true
  | .rol _ => false
  | .dct _ => true
  | .rot _ => false
  | .exn _ => false
/-- a key as data -/
def kD : Key → D
  | .inl i => .int i
  | .inr x => .str x
/-! ### how data lie in the abstract heap -/
section
variable (K : PySem.W.Frag)
mutual
def RV (io : List Addr) (H : Hp) : D → V → Prop
  | .non, v => v = .non
  | .bl b, v => v = .bl b
  | .int i, v => v = .int i
  | .str x, v => v = .str x
  | .tup ds, v => ∃ a vs, v = .ref a ∧ SqT K H a vs ∧ RVs io H ds vs
  | .ref n, v => ∃ a, io[n]? = some a ∧ v = .ref a
def RVs (io : List Addr) (H : Hp) : List D → List V → Prop
  | [], vs => vs = []
  | d :: ds, vs => ∃ v r, vs = v :: r ∧ RV io H d v ∧ RVs io H ds r
end
/-- what nobody writes -/
def Stay : HO → Prop
  | .frz _ _ => True
  | .xd _ => True
  | _ => False
structure Ext (io : List Addr) (H : Hp) (io' : List Addr) (H' : Hp) : Prop where
  pre : ∃ t, io' = io ++ t
  tup : ∀ a vs, SqT K H a vs → SqT K H' a vs
  stay : ∀ a u, Stay u → H a = some u → H' a = some u
/-- an exception that was caught: its object is known, its fields stand in its dict -/
def RXO (RVs : List D → List V → Prop) (H : Hp) (x : Exn) (a : Addr) : Prop := ∃ (oe : Obj) (φ : Heap → Prop) (c : Value) (vs : Array Value), H a = some (.frz oe (.ext φ)) ∧ oe.cls = c ∧ oe.data = .fields vs ∧ PySem.W.nsIn K mainGlobals x.cls = some (some c) ∧ match x.args with
  | none => oe.dict = none
  | some fs => ∃ dd ws, oe.dict = some dd ∧ H dd = some (.xd ws) ∧ ws.map (·.1) = fs.map (·.1) ∧ RVs (fs.map (·.2)) (ws.map (·.2))
/-- a list that nobody writes -/
def ROL (H : Hp) (a : Addr) (vs : List V) : Prop := (∃ o, H a = some (.frz o (.lst vs))) ∨
    ∃ (o : Obj) (its : Array Value) (n : Nat), K.lookup a = some o ∧ o.cls = .type "list" ∧ o.dict = none ∧ o.data = .seq its n ∧ its.size ≤ sizeLine ∧ Vals vs its.toList
/-- a tuple whose object is known -/
def ROT (H : Hp) (a : Addr) (vs : List V) : Prop := ∃ (o : Obj) (its : List Value) (n : Nat), H a = some (.frz o (.tup vs)) ∧ o.cls = .type "tuple" ∧ o.dict = none ∧ o.data = .seq its.toArray n ∧ Vals vs its
def RO (io : List Addr) (H : Hp) : O → Addr → Prop
  | .lst ds, a => ∃ vs, H a = some (.lst vs) ∧ RVs K io H ds vs
  | .rol ds, a => ∃ vs, ROL K H a vs ∧ RVs K io H ds vs
  | .rot ds, a => ∃ vs, ROT H a vs ∧ RVs K io H ds vs
  | .dct es, a => ∃ kvs : List (Key × V), H a = some (.dK kvs) ∧ es.map (·.1) = kvs.map (fun p => kD p.1) ∧ RVs K io H (es.map (·.2)) (kvs.map (·.2))
  | .exn x, a => RXO K (RVs K io H) H x a
/-- what may be written -/
def Wrt : HO → Prop
  | .lst _ => True
  | .dK _ => True
  | _ => False
structure RS (io : List Addr) (S : Sto) (H : Hp) : Prop where
  len : io.length = S.length
  obj : ∀ (n : Nat) (o : O) (a : Addr), S[n]? = some o → io[n]? = some a → RO K io H o a
  inj : ∀ (m n : Nat) (a : Addr) (o u : O), io[m]? = some a → io[n]? = some a → S[m]? = some o → S[n]? = some u → o.mut = true → u.mut = true → m = n
structure RE (io : List Addr) (H : Hp) (env : Ev) (σ : L2.St) : Prop where
  len : env.length = σ.length
  get : ∀ (i : Nat) (d : D), env[i]? = some (some d) → ∃ v, σ[i]? = some (some v) ∧ RV K io H d v
end
section
variable {K : PySem.W.Frag} {io io' io2 : List Addr} {H H' H2 : Hp} {S S' : Sto}
theorem Ext.refl : Ext K io H io H := ⟨⟨[], by simp⟩, fun _ _ h => h, fun _ _ _ h => h⟩
theorem Ext.trans (a : Ext K io H io' H') (b : Ext K io' H' io2 H2) : Ext K io H io2 H2 := by
  obtain ⟨t, rfl⟩ := a.pre
  obtain ⟨u, rfl⟩ := b.pre
  exact ⟨⟨t ++ u, by simp⟩, fun x vs h => b.tup x vs (a.tup x vs h), fun x v s h => b.stay x v s (a.stay x v s h)⟩
theorem Ext.get (e : Ext K io H io' H') {n : Nat} {a : Addr} (h : io[n]? = some a) : io'[n]? = some a := by
  obtain ⟨t, rfl⟩ := e.pre
  rw [List.getElem?_append_left (List.getElem?_eq_some_iff.mp h).1]
  exact h
mutual
theorem RV.mono (e : Ext K io H io' H') : ∀ (d : D) (v : V), RV K io H d v → RV K io' H' d v
  | .non, _, h => by simpa [RV] using h
  | .bl _, _, h => by simpa [RV] using h
  | .int _, _, h => by simpa [RV] using h
  | .str _, _, h => by simpa [RV] using h
  | .tup ds, v, h => by
    unfold RV at h ⊢
    obtain ⟨a, vs, e1, e2, e3⟩ := h
    exact ⟨a, vs, e1, e.tup a vs e2, RVs.mono e ds vs e3⟩
  | .ref n, v, h => by
    unfold RV at h ⊢
    obtain ⟨a, e1, e2⟩ := h
    exact ⟨a, e.get e1, e2⟩
theorem RVs.mono (e : Ext K io H io' H') : ∀ (ds : List D) (vs : List V), RVs K io H ds vs → RVs K io' H' ds vs
  | [], _, h => by simpa [RVs] using h
  | d :: ds, vs, h => by
    unfold RVs at h ⊢
    obtain ⟨v, r, e1, e2, e3⟩ := h
    exact ⟨v, r, e1, RV.mono e d v e2, RVs.mono e ds r e3⟩
end
theorem RE.mono {env : Ev} {σ : L2.St} (h : RE K io H env σ) (e : Ext K io H io' H') : RE K io' H' env σ := ⟨h.len, fun i d q => by
  obtain ⟨v, e1, e2⟩ := h.get i d q
  exact ⟨v, e1, RV.mono e d v e2⟩⟩
theorem RE.set {env : Ev} {σ : L2.St} (h : RE K io H env σ) (i : Nat) {d : D} {v : V} (r : RV K io H d v) : RE K io H (env.set i (some d)) (σ.set i (some v)) := by
  refine ⟨by simp [h.len], fun j e q => ?_⟩
  by_cases hj : i = j
  · subst hj
    have hi : i < env.length := by
      have := (List.getElem?_eq_some_iff.mp q).1
      simpa using this
    rw [List.getElem?_set_self hi] at q
    cases q
    exact ⟨v, List.getElem?_set_self (by rw [← h.len]; exact hi), r⟩
  · rw [List.getElem?_set_ne hj] at q ⊢
    exact h.get j e q
theorem RVs.length : ∀ {ds : List D} {vs : List V}, RVs K io H ds vs → ds.length = vs.length
  | [], _, h => by
    unfold RVs at h
    subst h
    rfl
  | d :: ds, _, h => by
    unfold RVs at h
    obtain ⟨v, r, e, _, h⟩ := h
    subst e
    rw [List.length_cons, List.length_cons, RVs.length h]
theorem RVs.get : ∀ {ds : List D} {vs : List V} {i : Nat} {d : D}, RVs K io H ds vs → ds[i]? = some d → ∃ v, vs[i]? = some v ∧ RV K io H d v
  | [], _, _, _, _, q => by simp at q
  | d :: ds, _, 0, x, h, q => by
    unfold RVs at h
    obtain ⟨v, r, e, h1, h2⟩ := h
    subst e
    simp at q
    subst q
    exact ⟨v, rfl, h1⟩
  | d :: ds, _, i + 1, x, h, q => by
    unfold RVs at h
    obtain ⟨v, r, e, h1, h2⟩ := h
    subst e
    simp at q
    obtain ⟨w, e1, e2⟩ := RVs.get h2 q
    exact ⟨w, by simpa using e1, e2⟩
theorem RVs.append : ∀ {ds es : List D} {vs ws : List V}, RVs K io H ds vs → RVs K io H es ws → RVs K io H (ds ++ es) (vs ++ ws)
  | [], _, _, _, h, q => by
    unfold RVs at h
    subst h
    exact q
  | d :: ds, es, _, ws, h, q => by
    unfold RVs at h
    obtain ⟨v, r, e, h1, h2⟩ := h
    subst e
    show RVs K io H (d :: (ds ++ es)) (v :: (r ++ ws))
    unfold RVs
    exact ⟨v, _, rfl, h1, RVs.append h2 q⟩
theorem RVs.nil : RVs K io H [] [] := by
  unfold RVs
  rfl
theorem RVs.cons {d : D} {ds : List D} {v : V} {vs : List V} (a : RV K io H d v) (b : RVs K io H ds vs) : RVs K io H (d :: ds) (v :: vs) := by
  unfold RVs
  exact ⟨v, vs, rfl, a, b⟩
theorem RVs.one {d : D} {v : V} (a : RV K io H d v) : RVs K io H [d] [v] := RVs.cons a RVs.nil
theorem RVs.set {d : D} {v : V} (r : RV K io H d v) : ∀ {ds : List D} {vs : List V} (i : Nat), RVs K io H ds vs → RVs K io H (ds.set i d) (vs.set i v)
  | [], _, i, h => by
    unfold RVs at h
    subst h
    exact RVs.nil
  | e :: ds, _, 0, h => by
    unfold RVs at h
    obtain ⟨w, q, e, h1, h2⟩ := h
    subst e
    exact RVs.cons r h2
  | e :: ds, _, i + 1, h => by
    unfold RVs at h
    obtain ⟨w, q, e, h1, h2⟩ := h
    subst e
    exact RVs.cons h1 (RVs.set r i h2)
theorem RVs.take : ∀ {ds : List D} {vs : List V} (n : Nat), RVs K io H ds vs → RVs K io H (ds.take n) (vs.take n)
  | _, _, 0, _ => by simpa using RVs.nil
  | [], _, n + 1, h => by
    unfold RVs at h
    subst h
    simpa using RVs.nil
  | d :: ds, _, n + 1, h => by
    unfold RVs at h
    obtain ⟨w, q, e, h1, h2⟩ := h
    subst e
    exact RVs.cons h1 (RVs.take n h2)
theorem RVs.drop : ∀ {ds : List D} {vs : List V} (n : Nat), RVs K io H ds vs → RVs K io H (ds.drop n) (vs.drop n)
  | _, _, 0, h => by simpa using h
  | [], _, n + 1, h => by
    unfold RVs at h
    subst h
    simpa using RVs.nil
  | d :: ds, _, n + 1, h => by
    unfold RVs at h
    obtain ⟨w, q, e, h1, h2⟩ := h
    subst e
    exact RVs.drop n h2
/-! ### the heap changes -/
theorem SqT.fresh {p : Addr} {o : HO} (hp : H p = none) : ∀ a vs, SqT K H a vs → SqT K (upd H p o) a vs := fun a vs h => by
  rcases h with (h | ⟨u, h⟩) | h
  · exact .inl (.inl (by rw [upd_ne (ne_of_none h hp)]; exact h))
  · exact .inl (.inr ⟨u, by rw [upd_ne (ne_of_none h hp)]; exact h⟩)
  · exact .inr h
theorem SqT.write {p : Addr} {o u : HO} (hp : H p = some u) (wu : Wrt u) : ∀ a vs, SqT K H a vs → SqT K (upd H p o) a vs := fun a vs h => by
  rcases h with (h | ⟨u, h⟩) | h
  · exact .inl (.inl (by rw [upd_ne (ne_of h hp (by rintro rfl; exact wu))]; exact h))
  · exact .inl (.inr ⟨u, by rw [upd_ne (ne_of h hp (by rintro rfl; exact wu))]; exact h⟩)
  · exact .inr h
theorem Stay.fresh {p : Addr} {o : HO} (hp : H p = none) : ∀ a u, Stay u → H a = some u → upd H p o a = some u := fun a u _ h => by
  rw [upd_ne (ne_of_none h hp)]
  exact h
theorem Stay.write {p : Addr} {o w : HO} (hp : H p = some w) (wu : Wrt w) : ∀ a u, Stay u → H a = some u → upd H p o a = some u := fun a u su h => by
  rw [upd_ne (ne_of h hp (by rintro rfl; cases u <;> first | exact su | exact wu))]
  exact h
theorem RXO.mono (e : Ext K io H io' H') {x : Exn} {a : Addr} (h : RXO K (RVs K io H) H x a) : RXO K (RVs K io' H') H' x a := by
  obtain ⟨oe, φ, c, vs, h1, h2, h3, h4, h5⟩ := h
  refine ⟨oe, φ, c, vs, e.stay a _ trivial h1, h2, h3, h4, ?_⟩
  cases hx : x.args with
  | none => rw [hx] at h5; exact h5
  | some fs =>
    rw [hx] at h5
    obtain ⟨dd, ws, g1, g2, g3, g4⟩ := h5
    exact ⟨dd, ws, g1, e.stay dd _ trivial g2, g3, RVs.mono e _ _ g4⟩
theorem ROL.fresh {p a : Addr} {o : HO} {vs : List V} (hp : H p = none) (h : ROL K H a vs) : ROL K (upd H p o) a vs := by
  rcases h with ⟨u, h⟩ | h
  · exact .inl ⟨u, by rw [upd_ne (ne_of_none h hp)]; exact h⟩
  · exact .inr h
theorem ROL.write {p a : Addr} {o u : HO} {vs : List V} (hp : H p = some u) (wu : Wrt u) (h : ROL K H a vs) : ROL K (upd H p o) a vs := by
  rcases h with ⟨u, h⟩ | h
  · exact .inl ⟨u, by rw [upd_ne (ne_of h hp (by rintro rfl; exact wu))]; exact h⟩
  · exact .inr h
theorem ROT.fresh {p a : Addr} {o : HO} {vs : List V} (hp : H p = none) (h : ROT H a vs) : ROT (upd H p o) a vs := by
  obtain ⟨u, its, n, h, r⟩ := h
  exact ⟨u, its, n, by rw [upd_ne (ne_of_none h hp)]; exact h, r⟩
theorem ROT.write {p a : Addr} {o u : HO} {vs : List V} (hp : H p = some u) (wu : Wrt u) (h : ROT H a vs) : ROT (upd H p o) a vs := by
  obtain ⟨u, its, n, h, r⟩ := h
  exact ⟨u, its, n, by rw [upd_ne (ne_of h hp (by rintro rfl; exact wu))]; exact h, r⟩
theorem ROT.sq {a : Addr} {vs : List V} (h : ROT H a vs) : SqT K H a vs := by
  obtain ⟨u, its, n, h, r⟩ := h
  exact .inl (.inr ⟨u, h⟩)
theorem ROL.sq {a : Addr} {vs : List V} (h : ROL K H a vs) : SqL K H a vs := by
  rcases h with ⟨u, h⟩ | h
  · exact .inl (.inr ⟨u, h⟩)
  · exact .inr h
theorem RO.fresh {t : List Addr} {p a : Addr} {o : HO} (hp : H p = none) : ∀ {u : O}, RO K io H u a → RO K (io ++ t) (upd H p o) u a
  | .lst ds, ⟨vs, h1, h2⟩ => ⟨vs, by rw [upd_ne (ne_of_none h1 hp)]; exact h1, RVs.mono ⟨⟨t, rfl⟩, SqT.fresh hp, Stay.fresh hp⟩ ds vs h2⟩
  | .rol ds, ⟨vs, h1, h2⟩ => ⟨vs, h1.fresh hp, RVs.mono ⟨⟨t, rfl⟩, SqT.fresh hp, Stay.fresh hp⟩ ds vs h2⟩
  | .rot ds, ⟨vs, h1, h2⟩ => ⟨vs, h1.fresh hp, RVs.mono ⟨⟨t, rfl⟩, SqT.fresh hp, Stay.fresh hp⟩ ds vs h2⟩
  | .dct es, ⟨kvs, h1, h2, h3⟩ => ⟨kvs, by rw [upd_ne (ne_of_none h1 hp)]; exact h1, h2, RVs.mono ⟨⟨t, rfl⟩, SqT.fresh hp, Stay.fresh hp⟩ _ _ h3⟩
  | .exn x, h => RXO.mono ⟨⟨t, rfl⟩, SqT.fresh hp, Stay.fresh hp⟩ h
/-- a new tuple -/
theorem RS.tupNew (h : RS K io S H) {p : Addr} {vs : List V} (hp : H p = none) : RS K io S (upd H p (.tup vs)) := ⟨h.len, fun n o a e1 e2 => by
  have q := (h.obj n o a e1 e2).fresh (t := []) (o := .tup vs) hp
  rwa [List.append_nil] at q, h.inj⟩
theorem Ext.fresh {p : Addr} {o : HO} (hp : H p = none) : Ext K io H io (upd H p o) := ⟨⟨[], by simp⟩, SqT.fresh hp, Stay.fresh hp⟩
theorem RS.mutSome (h : RS K io S H) {n : Nat} {o : O} {a : Addr} (e1 : S[n]? = some o) (e2 : io[n]? = some a) (m : o.mut = true) : ∃ u, H a = some u ∧ Wrt u := by
  have q := h.obj n o a e1 e2
  cases o with
  | lst ds =>
    obtain ⟨vs, q, _⟩ := q
    exact ⟨_, q, trivial⟩
  | rol ds => cases m
  | rot ds => cases m
  | exn x => cases m
  | dct es =>
    obtain ⟨vs, q, _⟩ := q
    exact ⟨_, q, trivial⟩
/-- a new object -/
theorem RS.objNew (h : RS K io S H) {p : Addr} {ob : O} {u : HO} (hp : H p = none) (r : RO K (io ++ [p]) (upd H p u) ob p) : RS K (io ++ [p]) (S ++ [ob]) (upd H p u) := by
  have hS : ∀ {n : Nat} {o : O}, (S ++ [ob])[n]? = some o → S[n]? = some o ∨ (n = S.length ∧ o = ob) := fun {n o} e => by
    by_cases hn : n < S.length
    · rw [List.getElem?_append_left hn] at e
      exact .inl e
    · rw [List.getElem?_append_right (by omega)] at e
      have h0 : n - S.length = 0 := by
        have := (List.getElem?_eq_some_iff.mp e).1
        simp at this
        omega
      rw [h0] at e
      cases e
      exact .inr ⟨by omega, rfl⟩
  have hI : ∀ {n : Nat} {a : Addr}, (io ++ [p])[n]? = some a → io[n]? = some a ∨ (n = S.length ∧ a = p) := fun {n a} e => by
    by_cases hn : n < io.length
    · rw [List.getElem?_append_left hn] at e
      exact .inl e
    · rw [List.getElem?_append_right (by omega)] at e
      have h0 : n - io.length = 0 := by
        have := (List.getElem?_eq_some_iff.mp e).1
        simp at this
        omega
      rw [h0] at e
      cases e
      exact .inr ⟨by have := h.len; omega, rfl⟩
  have lt : ∀ {n : Nat} {o : O}, S[n]? = some o → n < S.length := fun e => (List.getElem?_eq_some_iff.mp e).1
  have ltI : ∀ {n : Nat} {a : Addr}, io[n]? = some a → n < S.length := fun e => by
    rw [← h.len]
    exact (List.getElem?_eq_some_iff.mp e).1
  refine ⟨by simp [h.len], fun n o a e1 e2 => ?_, fun m n a o u e1 e2 e3 e4 m1 m2 => ?_⟩
  · rcases hS e1 with e1 | ⟨rfl, rfl⟩
    · rcases hI e2 with e2 | ⟨rfl, rfl⟩
      · exact (h.obj n o a e1 e2).fresh hp
      · exact absurd (lt e1) (Nat.lt_irrefl _)
    · rcases hI e2 with e2 | ⟨_, rfl⟩
      · exact absurd (ltI e2) (Nat.lt_irrefl _)
      · exact r
  · rcases hS e3 with f3 | ⟨q3, r3⟩
    · rcases hI e1 with f1 | ⟨q1, _⟩
      · rcases hS e4 with f4 | ⟨q4, r4⟩
        · rcases hI e2 with f2 | ⟨q2, _⟩
          · exact h.inj m n a o u f1 f2 f3 f4 m1 m2
          · exact absurd (q2 ▸ lt f4) (Nat.lt_irrefl _)
        · rcases hI e2 with f2 | ⟨_, r2⟩
          · exact absurd (q4 ▸ ltI f2) (Nat.lt_irrefl _)
          · obtain ⟨xs, q, _⟩ := h.mutSome f3 f1 m1
            rw [r2, hp] at q
            cases q
      · exact absurd (q1 ▸ lt f3) (Nat.lt_irrefl _)
    · rcases hI e1 with f1 | ⟨_, r1⟩
      · exact absurd (q3 ▸ ltI f1) (Nat.lt_irrefl _)
      · rcases hS e4 with f4 | ⟨q4, r4⟩
        · rcases hI e2 with f2 | ⟨q2, _⟩
          · obtain ⟨xs, q, _⟩ := h.mutSome f4 f2 m2
            rw [r1, hp] at q
            cases q
          · exact absurd (q2 ▸ lt f4) (Nat.lt_irrefl _)
        · rw [q3, q4]
/-- a new list -/
theorem RS.lstNew (h : RS K io S H) {p : Addr} {ds : List D} {vs : List V} (hp : H p = none) (r : RVs K io H ds vs) : RS K (io ++ [p]) (S ++ [.lst ds]) (upd H p (.lst vs)) :=
  h.objNew hp ⟨vs, upd_same, RVs.mono ⟨⟨[p], rfl⟩, SqT.fresh hp, Stay.fresh hp⟩ ds vs r⟩
theorem Ext.new {p : Addr} {o : HO} (hp : H p = none) : Ext K io H (io ++ [p]) (upd H p o) := ⟨⟨[p], rfl⟩, SqT.fresh hp, Stay.fresh hp⟩
theorem RS.lastNew (h : RS K io S H) {p : Addr} : (io ++ [p])[S.length]? = some p := by
  rw [← h.len]
  simp
/-- an object is written -/
theorem RS.put (h : RS K io S H) {n : Nat} {a : Addr} {ob : O} {o0 : O} {u : HO} (m0 : o0.mut = true) (m1 : ob.mut = true) (e1 : S[n]? = some o0) (e2 : io[n]? = some a) (r : Ext K io H io (upd H a u) → RO K io (upd H a u) ob a) : RS K io (S.set n ob) (upd H a u) ∧ Ext K io H io (upd H a u) := by
  obtain ⟨x0, hx, wx⟩ := h.mutSome e1 e2 m0
  have hn : n < S.length := (List.getElem?_eq_some_iff.mp e1).1
  have ext : Ext K io H io (upd H a u) := ⟨⟨[], by simp⟩, SqT.write hx wx, Stay.write hx wx⟩
  have old : ∀ {m : Nat} {o : O}, (S.set n ob)[m]? = some o → (m = n ∧ o = ob) ∨ (m ≠ n ∧ S[m]? = some o) := fun {m o} e => by
    by_cases hm : n = m
    · subst hm
      rw [List.getElem?_set_self hn] at e
      cases e
      exact .inl ⟨rfl, rfl⟩
    · rw [List.getElem?_set_ne hm] at e
      exact .inr ⟨fun z => hm z.symm, e⟩
  refine ⟨⟨by simp [h.len], fun m o b q1 q2 => ?_, fun k m b o v q1 q2 q3 q4 m1 m2 => ?_⟩, ext⟩
  · rcases old q1 with ⟨rfl, rfl⟩ | ⟨ne, q1⟩
    · rw [e2] at q2
      cases q2
      exact r ext
    · have q := h.obj m o b q1 q2
      cases o with
      | lst fs =>
        obtain ⟨ws, w1, w2⟩ := q
        have nb : b ≠ a := fun z => by
          subst z
          exact ne (h.inj m n b _ _ q2 e2 q1 e1 rfl m0)
        exact ⟨ws, by rw [upd_ne nb]; exact w1, RVs.mono ext fs ws w2⟩
      | rol fs =>
        obtain ⟨ws, w1, w2⟩ := q
        exact ⟨ws, w1.write hx wx, RVs.mono ext fs ws w2⟩
      | rot fs =>
        obtain ⟨ws, w1, w2⟩ := q
        exact ⟨ws, w1.write hx wx, RVs.mono ext fs ws w2⟩
      | exn x => exact RXO.mono ext q
      | dct fs =>
        obtain ⟨ws, w1, w2, w3⟩ := q
        have nb : b ≠ a := fun z => by
          subst z
          exact ne (h.inj m n b _ _ q2 e2 q1 e1 rfl m0)
        exact ⟨ws, by rw [upd_ne nb]; exact w1, w2, RVs.mono ext _ _ w3⟩
  · have g : ∀ {m : Nat} {o : O}, (S.set n ob)[m]? = some o → o.mut = true → ∃ o', S[m]? = some o' ∧ o'.mut = true := fun {m o} e mm => by
      rcases old e with ⟨rfl, rfl⟩ | ⟨_, e⟩
      · exact ⟨_, e1, m0⟩
      · exact ⟨o, e, mm⟩
    obtain ⟨o', a1, a2⟩ := g q3 m1
    obtain ⟨u', b1, b2⟩ := g q4 m2
    exact h.inj k m b o' u' q1 q2 a1 b1 a2 b2
/-- a list is written -/
theorem RS.write (h : RS K io S H) {n : Nat} {a : Addr} {ds es : List D} {vs : List V} (e1 : S[n]? = some (.lst es)) (e2 : io[n]? = some a) (r : RVs K io H ds vs) : RS K io (S.set n (.lst ds)) (upd H a (.lst vs)) ∧ Ext K io H io (upd H a (.lst vs)) :=
  h.put rfl rfl e1 e2 fun ext => ⟨vs, upd_same, RVs.mono ext ds vs r⟩
theorem RS.rot (h : RS K io S H) {n : Nat} {ds : List D} {v : V} (e : S[n]? = some (.rot ds)) (r : RV K io H (.ref n) v) : ∃ a vs, v = .ref a ∧ io[n]? = some a ∧ ROT H a vs ∧ RVs K io H ds vs := by
  unfold RV at r
  obtain ⟨a, h1, rfl⟩ := r
  obtain ⟨vs, q1, q2⟩ := h.obj n _ a e h1
  exact ⟨a, vs, rfl, h1, q1, q2⟩
/-- what a dict is -/
theorem RS.dct (h : RS K io S H) {n : Nat} {es : List (D × D)} {v : V} (e : S[n]? = some (.dct es)) (r : RV K io H (.ref n) v) : ∃ a kvs, v = .ref a ∧ io[n]? = some a ∧ H a = some (.dK kvs) ∧ es.map (·.1) = kvs.map (fun p => kD p.1) ∧ RVs K io H (es.map (·.2)) (kvs.map (·.2)) := by
  unfold RV at r
  obtain ⟨a, e1, e2⟩ := r
  obtain ⟨kvs, q1, q2, q3⟩ := h.obj n _ a e e1
  exact ⟨a, kvs, e2, e1, q1, q2, q3⟩
/-- what is read at a location -/
theorem RS.lst (h : RS K io S H) {n : Nat} {ds : List D} {v : V} (e : S[n]? = some (.lst ds)) (r : RV K io H (.ref n) v) : ∃ a vs, v = .ref a ∧ io[n]? = some a ∧ H a = some (.lst vs) ∧ RVs K io H ds vs := by
  unfold RV at r
  obtain ⟨a, e1, e2⟩ := r
  obtain ⟨vs, q1, q2⟩ := h.obj n _ a e e1
  exact ⟨a, vs, e2, e1, q1, q2⟩
theorem RS.seq (h : RS K io S H) {n : Nat} {ds : List D} {v : V} (e : S[n]? = some (.lst ds) ∨ S[n]? = some (.rol ds)) (r : RV K io H (.ref n) v) : ∃ a vs, v = .ref a ∧ io[n]? = some a ∧ SqL K H a vs ∧ RVs K io H ds vs := by
  unfold RV at r
  obtain ⟨a, e1, e2⟩ := r
  rcases e with e | e
  · obtain ⟨vs, q1, q2⟩ := h.obj n _ a e e1
    exact ⟨a, vs, e2, e1, SqL.of q1, q2⟩
  · obtain ⟨vs, q1, q2⟩ := h.obj n _ a e e1
    exact ⟨a, vs, e2, e1, q1.sq, q2⟩
end
end DL
namespace DL
open PySem PySem.Spec PyProof.Rows L2
/-! ### readings made of a computation -/
section
variable (K : PySem.W.Frag) (mg : Str → Option Value) (W : XK) (Wv : WX)
def RX (io : List Addr) (H : Hp) (e : Exn) (c : Value) (dd : Option Addr) : Prop := (mg e.cls = some c ∧ PySem.W.nsIn K mainGlobals e.cls = some (some c)) ∧ match e.args with
  | none => dd = none
  | some fs => ∃ d vs, dd = some d ∧ H d = some (.xd vs) ∧ vs.map (·.1) = fs.map (·.1) ∧ RVs K io H (fs.map (·.2)) (vs.map (·.2))
variable {α β : Type} (rel : List Addr → Hp → α → β → Prop)
def EndG (io : List Addr) (H : Hp) (r : R α) (S' : Sto) (Q : β → Hp → Prop) : Prop := match r with
  | .ok d => ∀ io' H' v, Ext K io H io' H' → RS K io' S' H' → rel io' H' d v → Q v H'
  | .ex e => ∀ io' H' c dd, Ext K io H io' H' → RS K io' S' H' → RX K mg io' H' e c dd → W c dd H'
def tG (f : Ev → Sto → Ans α) : L2.St → Hp → (β → Hp → Prop) → Prop := fun σ H Q =>
  ∃ io S env r S', RS K io S H ∧ RE K io H env σ ∧ f env S = some (r, S') ∧ EndG K mg (WE Wv σ) rel io H r S' Q
abbrev tM (f : Ev → Sto → Ans D) : TE := tG K mg Wv (RV K) f
abbrev tMA (f : Ev → Sto → Ans (List D)) : TA := tG K mg Wv (RVs K) f
abbrev rB : List Addr → Hp → Bool → Bool → Prop := fun _ _ a b => a = b
abbrev tMT (f : Ev → Sto → Ans Bool) : TT := tG K mg Wv rB f
/-- a two-place operation on values, from one on data -/
def rM (g : D → D → Sto → Option (D × Sto)) : R2 := fun x y H Q =>
  ∃ io S a b d S', RS K io S H ∧ RV K io H a x ∧ RV K io H b y ∧ g a b S = some (d, S') ∧ ∀ io' H' v, Ext K io H io' H' → RS K io' S' H' → RV K io' H' d v → Q v H'
def rMC (g : List D → Sto → Option (D × Sto)) : List V → Hp → VK → Prop := fun xs H Q =>
  ∃ io S ds d S', RS K io S H ∧ RVs K io H ds xs ∧ g ds S = some (d, S') ∧ ∀ io' H' v, Ext K io H io' H' → RS K io' S' H' → RV K io' H' d v → Q v H'
def rMM (g : D → List D → Sto → Option (D × Sto)) : V → List V → Hp → VK → Prop := fun x xs H Q =>
  ∃ io S a ds d S', RS K io S H ∧ RV K io H a x ∧ RVs K io H ds xs ∧ g a ds S = some (d, S') ∧ ∀ io' H' v, Ext K io H io' H' → RS K io' S' H' → RV K io' H' d v → Q v H'
end
section
variable {K : PySem.W.Frag} {mg : Str → Option Value} {W0 : XK} {W : WX} {α β γ δ : Type} {rel : List Addr → Hp → α → β → Prop} {relg : List Addr → Hp → γ → δ → Prop}
  {io io' : List Addr} {H H' : Hp} {S S' : Sto} {σ : L2.St} {env : Ev}
theorem EndG.mono {r : R α} {Q : β → Hp → Prop} (h : EndG K mg W0 rel io H r S' Q) (e : Ext K io H io' H') : EndG K mg W0 rel io' H' r S' Q := by
  cases r with
  | ok d => exact fun io2 H2 v e2 => h io2 H2 v (e.trans e2)
  | ex x => exact fun io2 H2 c dd e2 => h io2 H2 c dd (e.trans e2)
theorem EndG.now {d : α} {v : β} {Q : β → Hp → Prop} (h : EndG K mg W0 rel io H (.ok d) S' Q) (rs : RS K io S' H) (r : rel io H d v) : Q v H := h io H v Ext.refl rs r
theorem tG_bind2 {f : Ev → Sto → Ans α} {k : α → Sto → Ans γ} {r : R γ} {Q : β → Hp → Prop} {Q0 : δ → Hp → Prop} (rs : RS K io S H) (re : RE K io H env σ) (h : bindR (f env S) k = some (r, S')) (hE : EndG K mg (WE W σ) relg io H r S' Q0)
    (hk : ∀ a S1 io1 H1 v, f env S = some (.ok a, S1) → Ext K io H io1 H1 → RS K io1 S1 H1 → RE K io1 H1 env σ → rel io1 H1 a v → k a S1 = some (r, S') → EndG K mg (WE W σ) relg io1 H1 r S' Q0 → Q v H1) : tG K mg W rel f σ H Q := by
  cases hf : f env S with
  | none =>
    rw [hf] at h
    cases h
  | some p =>
    obtain ⟨ra, S1⟩ := p
    rw [hf] at h
    cases ra with
    | ok a => exact ⟨io, S, env, .ok a, S1, rs, re, hf, fun io1 H1 v e rs1 rv => hk a S1 io1 H1 v hf e rs1 (re.mono e) rv h (hE.mono e)⟩
    | ex e =>
      cases h
      exact ⟨io, S, env, .ex e, _, rs, re, hf, hE⟩
theorem tG_bind {f : Ev → Sto → Ans α} {k : α → Sto → Ans γ} {r : R γ} {Q : β → Hp → Prop} {Q0 : δ → Hp → Prop} (rs : RS K io S H) (re : RE K io H env σ) (h : bindR (f env S) k = some (r, S')) (hE : EndG K mg (WE W σ) relg io H r S' Q0)
    (hk : ∀ a S1 io1 H1 v, Ext K io H io1 H1 → RS K io1 S1 H1 → RE K io1 H1 env σ → rel io1 H1 a v → k a S1 = some (r, S') → EndG K mg (WE W σ) relg io1 H1 r S' Q0 → Q v H1) : tG K mg W rel f σ H Q := by
  cases hf : f env S with
  | none =>
    rw [hf] at h
    cases h
  | some p =>
    obtain ⟨ra, S1⟩ := p
    rw [hf] at h
    cases ra with
    | ok a => exact ⟨io, S, env, .ok a, S1, rs, re, hf, fun io1 H1 v e rs1 rv => hk a S1 io1 H1 v e rs1 (re.mono e) rv h (hE.mono e)⟩
    | ex e =>
      cases h
      exact ⟨io, S, env, .ex e, _, rs, re, hf, hE⟩
theorem okO_some {x : Option (D × Sto)} {r : R D} (h : okO x = some (r, S')) : ∃ d, x = some (d, S') ∧ r = .ok d := by
  cases x with
  | none => cases h
  | some p =>
    obtain ⟨d, S1⟩ := p
    cases h
    exact ⟨d, rfl, rfl⟩
end
/-! ### weaker readings -/
section
variable {X : Cx}
theorem pe_weak {e : Expr} {t t' : TE} (h : PE X e t) (w : ∀ σ H Q, t' σ H Q → t σ H Q) : PE X e t' := ⟨fun pins s σ H Q I q => h.run pins s σ H Q I (w σ H Q q)⟩
theorem pt_weak {e : Expr} {t t' : TT} (h : PT X e t) (w : ∀ σ H Q, t' σ H Q → t σ H Q) : PT X e t' := ⟨fun pins s σ H Q I q => h.run pins s σ H Q I (w σ H Q q)⟩
theorem pw_weak {e : Expr} {t t' : TT} (h : PW X e t) (w : ∀ σ H Q, t' σ H Q → t σ H Q) : PW X e t' := ⟨fun wh pins s σ H Q I q => h.run wh pins s σ H Q I (w σ H Q q)⟩
theorem pa_weak {es : List Expr} {t t' : TA} (h : PA X es t) (w : ∀ σ H Q, t' σ H Q → t σ H Q) : PA X es t' := ⟨fun pos pins s σ H Q I q => h.run pos pins s σ H Q I (w σ H Q q)⟩
theorem ps_weak {st : Stmt} {t t' : TS} (h : PS X st t) (w : ∀ E σ H, t' E σ H → t E σ H) : PS X st t' := ⟨fun pins s σ H E I q => h.run pins s σ H E I (w E σ H q)⟩
theorem pss_weak {st : List Stmt} {t t' : TS} (h : PSs X st t) (w : ∀ E σ H, t' E σ H → t E σ H) : PSs X st t' := ⟨fun pins s σ H E I q => h.run pins s σ H E I (w E σ H q)⟩
theorem pi_weak {tg e : Expr} {t t' : TI} (h : PI X tg e t) (w : ∀ σ H Q, t' σ H Q → t σ H Q) : PI X tg e t' := ⟨fun pins s σ H Q I q => h.run pins s σ H Q I (w σ H Q q)⟩
theorem pi_or {tg e : Expr} {t t' : TI} (h : PI X tg e t) (h' : PI X tg e t') : PI X tg e (fun σ H Q => t σ H Q ∨ t' σ H Q) := ⟨fun pins s σ H Q I q => q.elim (h.run pins s σ H Q I) (h'.run pins s σ H Q I)⟩
end
/-- nothing is let out -/
def E0x : WX := fun _ _ _ _ => False
/-- what leaves the def -/
abbrev XW (E : XK) : WX := fun c d _ H => E c d H
/-! ### the judgements -/
abbrev DE (X : Cx) (W : WX) (e : Expr) (f : Ev → Sto → Ans D) : Prop := PE X e (tM X.K X.mg W f)
abbrev DT (X : Cx) (W : WX) (e : Expr) (f : Ev → Sto → Ans Bool) : Prop := PT X e (tMT X.K X.mg W f)
abbrev DW (X : Cx) (W : WX) (e : Expr) (f : Ev → Sto → Ans Bool) : Prop := PW X e (tMT X.K X.mg W f)
abbrev DA (X : Cx) (W : WX) (es : List Expr) (f : Ev → Sto → Ans (List D)) : Prop := PA X es (tMA X.K X.mg W f)
abbrev OpD (X : Cx) (f : Value → Value → Sem Value) (g : D → D → Sto → Option (D × Sto)) : Prop := OpR X f (rM X.K g)
abbrev CallD (X : Cx) (f : Value) (g : List D → Sto → Option (D × Sto)) : Prop := CallR X f (rMC X.K g)
abbrev MtD (X : Cx) (id : String) (g : D → List D → Sto → Option (D × Sto)) : Prop := MtR X id (rMM X.K g)
/-! ### the computations -/
def dVar (i : Nat) : Ev → Sto → Ans D := fun env S => match env[i]? with
  | some (some d) => some (.ok d, S)
  | _ => none
def dC (d : D) : Ev → Sto → Ans D := fun _ S => some (.ok d, S)
def dOp (g : D → D → Sto → Option (D × Sto)) (fa fb : Ev → Sto → Ans D) : Ev → Sto → Ans D := fun env S =>
  bindR (fa env S) fun a S1 => bindR (fb env S1) fun b S2 => okO (g a b S2)
def dUn (g : D → Sto → Option (D × Sto)) (fa : Ev → Sto → Ans D) : Ev → Sto → Ans D := fun env S =>
  bindR (fa env S) fun a S1 => okO (g a S1)
def dNil : Ev → Sto → Ans (List D) := fun _ S => some (.ok [], S)
def dCons (fa : Ev → Sto → Ans D) (fr : Ev → Sto → Ans (List D)) : Ev → Sto → Ans (List D) := fun env S =>
  bindR (fa env S) fun a S1 => bindR (fr env S1) fun r S2 => some (.ok (a :: r), S2)
def dCB (g : List D → Sto → Option (D × Sto)) (fs : Ev → Sto → Ans (List D)) : Ev → Sto → Ans D := fun env S =>
  bindR (fs env S) fun ds S1 => okO (g ds S1)
def gTup : List D → Sto → Option (D × Sto) := fun ds S => if ds.length ≤ sizeLine then some (.tup ds, S) else none
def gLst : List D → Sto → Option (D × Sto) := fun ds S => if ds.length ≤ sizeLine then some (.ref S.length, S ++ [.lst ds]) else none
/-- the items of a list, a tuple -/
def seqOf (d : D) (S : Sto) : Option (List D) := match d with
  | .tup ds => some ds
  | .ref n => match S[n]? with
    | some (.lst ds) => some ds
    | some (.rol ds) => some ds
    | _ => none
  | _ => none
def truD (d : D) (S : Sto) : Option Bool := match d with
  | .non => some false
  | .bl b => some b
  | .int i => some (i != 0)
  | .str x => if x.length ≤ sizeLine then some ((x.length : Int) != 0) else none
  | d => (seqOf d S).map fun ds => !ds.isEmpty
def okT (x : Option Bool) (S : Sto) : Ans Bool := match x with
  | none => none
  | some b => some (.ok b, S)
def dTru (fa : Ev → Sto → Ans D) : Ev → Sto → Ans Bool := fun env S => bindR (fa env S) fun a S1 => okT (truD a S1) S1
def dAnd (fa fb : Ev → Sto → Ans Bool) : Ev → Sto → Ans Bool := fun env S => bindR (fa env S) fun a S1 => if a = true then fb env S1 else some (.ok false, S1)
def dOr (fa fb : Ev → Sto → Ans Bool) : Ev → Sto → Ans Bool := fun env S => bindR (fa env S) fun a S1 => if a = true then some (.ok true, S1) else fb env S1
def dNot (fa : Ev → Sto → Ans Bool) : Ev → Sto → Ans Bool := fun env S => bindR (fa env S) fun a S1 => some (.ok (!a), S1)
def dAndV (fa fb : Ev → Sto → Ans D) : Ev → Sto → Ans D := fun env S => bindR (fa env S) fun a S1 => bindR (okT (truD a S1) S1) fun c S1 => if c = true then fb env S1 else some (.ok a, S1)
def dOrV (fa fb : Ev → Sto → Ans D) : Ev → Sto → Ans D := fun env S => bindR (fa env S) fun a S1 => bindR (okT (truD a S1) S1) fun c S1 => if c = true then some (.ok a, S1) else fb env S1
def dNotV (fa : Ev → Sto → Ans D) : Ev → Sto → Ans D := fun env S => bindR (fa env S) fun a S1 => bindR (okT (truD a S1) S1) fun c S1 => some (.ok (.bl (!c)), S1)
def dIf (fc : Ev → Sto → Ans Bool) (fa fb : Ev → Sto → Ans D) : Ev → Sto → Ans D := fun env S => bindR (fc env S) fun c S1 => if c = true then fa env S1 else fb env S1
/-! ### the rules -/
section
variable {X : Cx} {W : WX} {a b e : Expr} {es rest : List Expr} {fa fb : Ev → Sto → Ans D} {fs : Ev → Sto → Ans (List D)} {pos : Pos}
theorem RV.seq {K : PySem.W.Frag} {io : List Addr} {S : Sto} {H : Hp} {d : D} {v : V} {ds : List D} (rs : RS K io S H) (r : RV K io H d v) (h : seqOf d S = some ds) : ∃ p vs, v = .ref p ∧ (SqL K H p vs ∨ SqT K H p vs) ∧ RVs K io H ds vs := by
  cases d with
  | tup es =>
    unfold RV at r
    obtain ⟨p, vs, e1, e2, e3⟩ := r
    cases h
    exact ⟨p, vs, e1, .inr e2, e3⟩
  | ref n =>
    have q : S[n]? = some (.lst ds) ∨ S[n]? = some (.rol ds) := by
      simp only [seqOf] at h
      split at h
      · cases h
        exact .inl (by assumption)
      · cases h
        exact .inr (by assumption)
      · cases h
    obtain ⟨p, vs, e1, _, e2, e3⟩ := rs.seq q r
    exact ⟨p, vs, e1, .inl e2, e3⟩
  | non => cases h
  | bl _ => cases h
  | int _ => cases h
  | str _ => cases h
theorem d_var (i : Nat) {x : Str} (hN : X.N[i]? = some x := by rfl) (hv : Vis X.env.scope x := by first | exact Or.inl rfl | exact Or.inr (Or.inl rfl) | exact Or.inr (Or.inr rfl)) (hd : (x == ("__debug__" : Str)) = false := by decide)
    (hcd : (x == ("__classdict__" : Str)) = false := by decide) : DE X W (.Name x pos) (dVar i) :=
  pe_weak (pe_var hN hv hd hcd) fun σ H Q ⟨io, S, env, r, S', rs, re, hf, hE⟩ => by
    unfold dVar at hf
    split at hf
    · rename_i d hd
      cases hf
      obtain ⟨v, e1, e2⟩ := re.get i d hd
      exact ⟨v, e1, hE.now rs e2⟩
    · cases hf
theorem d_int {i : Int} {j} : DE X W (.Constant (.int i) j pos) (dC (.int i)) := pe_weak pe_int fun σ H Q ⟨io, S, env, r, S', rs, re, hf, hE⟩ => by
  cases hf
  exact hE.now rs (by simp [RV])
theorem d_bl {i : Bool} {j} : DE X W (.Constant (.bool i) j pos) (dC (.bl i)) := pe_weak pe_bl fun σ H Q ⟨io, S, env, r, S', rs, re, hf, hE⟩ => by
  cases hf
  exact hE.now rs (by simp [RV])
theorem d_str {x : Str} {j} : DE X W (.Constant (.str x) j pos) (dC (.str x)) := pe_weak pe_str fun σ H Q ⟨io, S, env, r, S', rs, re, hf, hE⟩ => by
  cases hf
  exact hE.now rs (by simp [RV])
theorem tOp_of {g : D → D → Sto → Option (D × Sto)} {K : PySem.W.Frag} {mg : Str → Option Value} {σ : L2.St} {H : Hp} {Q : VK} (h : tM K mg W (dOp g fa fb) σ H Q) : tOp (rM K g) (tM K mg W fa) (tM K mg W fb) σ H Q := by
  obtain ⟨io, S, env, r, S', rs, re, hf, hE⟩ := h
  refine tG_bind rs re hf hE fun x S1 io1 H1 v e1 rs1 re1 rv1 h1 hE1 => tG_bind rs1 re1 h1 hE1 fun y S2 io2 H2 w e2 rs2 re2 rv2 h2 hE2 => ?_
  obtain ⟨d, h3, rfl⟩ := okO_some h2
  exact ⟨io2, S2, x, y, d, S', rs2, RV.mono e2 x v rv1, rv2, h3, hE2⟩
theorem d_op {op : Operator} {g : D → D → Sto → Option (D × Sto)} (ho : OpD X (binaryOp op) g) (ha : DE X W a fa) (hb : DE X W b fb) : DE X W (.BinOp a op b pos) (dOp g fa fb) := pe_weak (pe_op ho ha hb) fun _ _ _ => tOp_of
theorem d_cmp {op : CmpOp} {g : D → D → Sto → Option (D × Sto)} (ho : OpD X (compareOp op) g) (ha : DE X W a fa) (hb : DE X W b fb) (hm : behindInMarks op b = false) : DE X W (.Compare a [op] [b] pos) (dOp g fa fb) := pe_weak (pe_cmpR ho ha hb hm) fun _ _ _ => tOp_of
theorem d_ix {g : D → D → Sto → Option (D × Sto)} (ho : IxR X (rM X.K g)) (ha : DE X W a fa) (hb : DE X W b fb) (hs : PlainIx b) : DE X W (.Subscript a b pos) (dOp g fa fb) := pe_weak (pe_ix ho ha hb hs) fun _ _ _ => tOp_of
theorem da_nil : DA X W [] dNil := pa_weak pa_nil fun σ H Q ⟨io, S, env, r, S', rs, re, hf, hE⟩ => by
  cases hf
  exact hE.now rs RVs.nil
theorem da_cons (ha : DE X W e fa) (hr : DA X W es fs) (hs : starEach (e :: es) X.env = (false, eval e X.env) :: starEach es X.env := by rfl) : DA X W (e :: es) (dCons fa fs) :=
  pa_weak (pa_cons ha hr hs) fun σ H Q ⟨io, S, env, r, S', rs, re, hf, hE⟩ =>
    tG_bind rs re hf hE fun x S1 io1 H1 v e1 rs1 re1 rv1 h1 hE1 => tG_bind rs1 re1 h1 hE1 fun y S2 io2 H2 w e2 rs2 re2 rv2 h2 hE2 => by
      cases h2
      exact hE2.now rs2 (RVs.cons (RV.mono e2 x v rv1) rv2)
theorem d_tup {x1} (h : DA X W es fs) : DE X W (.Tuple es x1 pos) (dCB gTup fs) := pe_weak (pe_tup h) fun σ H Q ⟨io, S, env, r, S', rs, re, hf, hE⟩ =>
  tG_bind rs re hf hE fun x S1 io1 H1 v e1 rs1 re1 rv1 h1 hE1 => by
    obtain ⟨d, h2, rfl⟩ := okO_some h1
    unfold gTup at h2
    split at h2
    · rename_i hl
      cases h2
      refine ⟨by rw [← rv1.length]; exact hl, fun p hp => hE1 io1 _ _ (Ext.fresh hp) (rs1.tupNew hp) ?_⟩
      unfold RV
      exact ⟨p, v, rfl, SqT.of upd_same, RVs.mono (Ext.fresh hp) x v rv1⟩
    · cases h2
theorem d_lst (h : DA X W es fs) : DE X W (.List es pos) (dCB gLst fs) := pe_weak (pe_lst h) fun σ H Q ⟨io, S, env, r, S', rs, re, hf, hE⟩ =>
  tG_bind rs re hf hE fun x S1 io1 H1 v e1 rs1 re1 rv1 h1 hE1 => by
    obtain ⟨d, h2, rfl⟩ := okO_some h1
    unfold gLst at h2
    split at h2
    · rename_i hl
      cases h2
      refine ⟨by rw [← rv1.length]; exact hl, fun p hp => hE1 _ _ _ (Ext.new hp) (rs1.lstNew hp rv1) ?_⟩
      unfold RV
      exact ⟨p, rs1.lastNew, rfl⟩
    · cases h2
theorem d_callB {x : Str} {p : Pos} {id : String} {g : List D → Sto → Option (D × Sto)} (hc : CallD X (.builtin id) g) (hg : Gl X x) (hm : X.mg x = none) (hv : bootBuiltins x = some (.builtin id)) (ha : DA X W (e :: es) fs) (hn : x ≠ "__name__" := by decide) (hdb : (x == ("__debug__" : Str)) = false := by decide)
    (he : starEach (e :: es) X.env = (false, eval e X.env) :: starEach es X.env := by rfl) (hpl : (backTo pos (starEach es X.env)).any (·.1) = false := by rfl) : DE X W (.Call (.Name x p) (e :: es) [] pos) (dCB g fs) :=
  pe_weak (pe_callB hc hg hm hv ha hn hdb he hpl) fun σ H Q ⟨io, S, env, r, S', rs, re, hf, hE⟩ =>
    tG_bind rs re hf hE fun x S1 io1 H1 v e1 rs1 re1 rv1 h1 hE1 => by
      obtain ⟨d, h2, rfl⟩ := okO_some h1
      exact ⟨io1, S1, x, d, S', rs1, rv1, h2, hE1⟩
theorem d_callTy {x : Str} {p : Pos} {T : String} {g : List D → Sto → Option (D × Sto)} (hc : CallD X (.type T) g) (hg : Gl X x) (hm : X.mg x = none) (hv : bootBuiltins x = some (.type T)) (ha : DA X W (e :: es) fs) (hn : x ≠ "__name__" := by decide) (hdb : (x == ("__debug__" : Str)) = false := by decide)
    (he : starEach (e :: es) X.env = (false, eval e X.env) :: starEach es X.env := by rfl) (hpl : (backTo pos (starEach es X.env)).any (·.1) = false := by rfl) : DE X W (.Call (.Name x p) (e :: es) [] pos) (dCB g fs) :=
  pe_weak (pe_callTy hc hg hm hv ha hn hdb he hpl) fun σ H Q ⟨io, S, env, r, S', rs, re, hf, hE⟩ =>
    tG_bind rs re hf hE fun x S1 io1 H1 v e1 rs1 re1 rv1 h1 hE1 => by
      obtain ⟨d, h2, rfl⟩ := okO_some h1
      exact ⟨io1, S1, x, d, S', rs1, rv1, h2, hE1⟩
/-! tests -/
theorem truV_of {K : PySem.W.Frag} {io : List Addr} {S : Sto} {H : Hp} {d : D} {v : V} {k : Bool} (rs : RS K io S H) (r : RV K io H d v) (h : truD d S = some k) : TruV K v H k := by
  have sq : ∀ {d : D}, RV K io H d v → (seqOf d S).map (fun ds => !ds.isEmpty) = some k → TruV K v H k := fun {d} r h => by
    cases hs : seqOf d S with
    | none => rw [hs] at h; cases h
    | some ds =>
      rw [hs] at h
      obtain ⟨p, vs, rfl, e2, e3⟩ := RV.seq rs r hs
      cases h
      have el : ds.isEmpty = vs.isEmpty := by
        have := e3.length
        cases ds <;> cases vs <;> simp_all
      show (∃ xs, SqL K H p xs ∧ (!ds.isEmpty) = !xs.isEmpty) ∨ (∃ xs, SqT K H p xs ∧ (!ds.isEmpty) = !xs.isEmpty) ∨ _
      rw [el]
      rcases e2 with e2 | e2
      · exact .inl ⟨vs, e2, rfl⟩
      · exact .inr (.inl ⟨vs, e2, rfl⟩)
  cases d with
  | non => unfold RV at r; subst r; cases h; rfl
  | bl _ => unfold RV at r; subst r; cases h; rfl
  | int _ => unfold RV at r; subst r; cases h; rfl
  | str x =>
    unfold RV at r
    subst r
    unfold truD at h
    split at h <;> try (rename_i e; cases e)
    · split at h
      · rename_i hl
        cases h
        exact ⟨hl, rfl⟩
      · cases h
    · rename_i h1 _ _; simp at *
  | tup ds => exact sq r h
  | ref n => exact sq r h
theorem okT_some {x : Option Bool} {S S' : Sto} {r : R Bool} (h : okT x S = some (r, S')) : ∃ b, x = some b ∧ r = .ok b ∧ S' = S := by
  cases x with
  | none => cases h
  | some b =>
    cases h
    exact ⟨b, rfl, rfl, rfl⟩
theorem dt_of (ha : DE X W a fa) (he : ∀ whole, isTrue a X.env whole = (do let v ← whole; standAt a.pos; holding [v] (truthy v)) := by intro _; rfl) : DT X W a (dTru fa) :=
  pt_weak (pt_truth ha he) fun σ H Q ⟨io, S, env, r, S', rs, re, hf, hE⟩ =>
    tG_bind rs re hf hE fun x S1 io1 H1 v e1 rs1 re1 rv1 h1 hE1 => by
      obtain ⟨k, h2, rfl, rfl⟩ := okT_some h1
      exact ⟨k, truV_of rs1 rv1 h2, hE1.now rs1 rfl⟩
/-- a comparison as a test -/
def blOf (d : D) : Option Bool := match d with
  | .bl b => some b
  | _ => none
def dBl (fa : Ev → Sto → Ans D) : Ev → Sto → Ans Bool := fun env S => bindR (fa env S) fun a S1 => okT (blOf a) S1
theorem dt_cmp {op : CmpOp} {g : D → D → Sto → Option (D × Sto)} (ho : OpD X (compareOp op) g) (ha : DE X W a fa) (hb : DE X W b fb) (hm : behindInMarks op b = false) : DT X W (.Compare a [op] [b] pos) (dBl (dOp g fa fb)) :=
  pt_weak (pt_cmpR ho ha hb hm) fun σ H Q ⟨io, S, env, r, S', rs, re, hf, hE⟩ => tOp_of (tG_bind rs re hf hE fun x S1 io1 H1 v e1 rs1 re1 rv1 h1 hE1 => by
      obtain ⟨k, h2, rfl, rfl⟩ := okT_some h1
      cases x <;> first | cases h2 | skip
      unfold RV at rv1
      subst rv1
      exact ⟨_, rfl, hE1.now rs1 rfl⟩)
variable {ga gb : Ev → Sto → Ans Bool}
theorem dt_not (ha : DT X W a ga) : DT X W (.UnaryOp .Not a pos) (dNot ga) := pt_weak (pt_not ha) fun σ H Q ⟨io, S, env, r, S', rs, re, hf, hE⟩ =>
  tG_bind rs re hf hE fun x S1 io1 H1 v e1 rs1 re1 rv1 h1 hE1 => by
    cases h1
    cases rv1
    exact hE1.now rs1 rfl
theorem dw_and1 (ha : DT X W a ga) : DW X W (.BoolOp .And [a] pos) ga := pw_and1 ha
theorem dw_or1 (ha : DT X W a ga) : DW X W (.BoolOp .Or [a] pos) ga := pw_or1 ha
theorem dw_and (ha : DT X W a ga) (hb : DW X W (.BoolOp .And (b :: rest) pos) gb) : DW X W (.BoolOp .And (a :: b :: rest) pos) (dAnd ga gb) := pw_weak (pw_and ha hb) fun σ H Q ⟨io, S, env, r, S', rs, re, hf, hE⟩ =>
  tG_bind rs re hf hE fun x S1 io1 H1 v e1 rs1 re1 rv1 h1 hE1 => by
    cases rv1
    cases x with
    | true => exact ⟨io1, S1, env, r, S', rs1, re1, h1, hE1⟩
    | false =>
      cases h1
      exact hE1.now rs1 rfl
theorem dw_or (ha : DT X W a ga) (hb : DW X W (.BoolOp .Or (b :: rest) pos) gb) : DW X W (.BoolOp .Or (a :: b :: rest) pos) (dOr ga gb) := pw_weak (pw_or ha hb) fun σ H Q ⟨io, S, env, r, S', rs, re, hf, hE⟩ =>
  tG_bind rs re hf hE fun x S1 io1 H1 v e1 rs1 re1 rv1 h1 hE1 => by
    cases rv1
    cases x with
    | false => exact ⟨io1, S1, env, r, S', rs1, re1, h1, hE1⟩
    | true =>
      cases h1
      exact hE1.now rs1 rfl
theorem dt_w (h : DW X W a ga) : DT X W a ga := h.pt
/-! and, or, not as values -/
theorem d_one {op} (h : DE X W a fa) : DE X W (.BoolOp op [a] pos) fa := pe_one h
theorem d_and (ha : DE X W a fa) (hb : DE X W (.BoolOp .And (b :: rest) pos) fb) : DE X W (.BoolOp .And (a :: b :: rest) pos) (dAndV fa fb) := pe_weak (pe_andT ha hb) fun σ H Q ⟨io, S, env, r, S', rs, re, hf, hE⟩ =>
  tG_bind rs re hf hE fun x S1 io1 H1 v e1 rs1 re1 rv1 h1 hE1 => by
    cases ht : truD x S1 with
    | none => rw [ht] at h1; cases h1
    | some k =>
      rw [ht] at h1
      refine ⟨k, truV_of rs1 rv1 ht, ?_⟩
      cases k with
      | true => exact ⟨io1, S1, env, r, S', rs1, re1, h1, hE1⟩
      | false =>
        cases h1
        exact hE1.now rs1 rv1
end
end DL
namespace DL
open PySem PySem.Spec PyProof.Rows L2
/-! ### statements -/
inductive Out where
  | nx | rt (d : D) | bk | ct | ex (e : Exn)
abbrev AnsS := Option (Out × Ev × Sto)
def bindS {α : Type} (x : Ans α) (env : Ev) (k : α → Sto → AnsS) : AnsS := match x with
  | none => none
  | some (.ex e, S) => some (.ex e, env, S)
  | some (.ok a, S) => k a S
section
variable (K : PySem.W.Frag) (mg : Str → Option Value) (W : WX)
def EndS (io : List Addr) (H : Hp) (o : Out) (env' : Ev) (S' : Sto) (E : Ends) : Prop := match o with
  | .nx => ∀ io' H' σ', Ext K io H io' H' → RS K io' S' H' → RE K io' H' env' σ' → E.nx σ' H'
  | .bk => ∀ io' H' σ', Ext K io H io' H' → RS K io' S' H' → RE K io' H' env' σ' → E.bk σ' H'
  | .ct => ∀ io' H' σ', Ext K io H io' H' → RS K io' S' H' → RE K io' H' env' σ' → E.ct σ' H'
  | .rt d => ∀ io' H' v, Ext K io H io' H' → RS K io' S' H' → RV K io' H' d v → E.rt v H'
  | .ex e => ∀ io' H' σ' c dd, Ext K io H io' H' → RS K io' S' H' → RE K io' H' env' σ' → RX K mg io' H' e c dd → W c dd σ' H'
def tS (f : Ev → Sto → AnsS) : TS := fun E σ H => ∃ io S env o env' S', RS K io S H ∧ RE K io H env σ ∧ f env S = some (o, env', S') ∧ EndS K mg W io H o env' S' E
/-- a store o[i] = v, from one on data -/
def rMSet (g : D → D → D → Sto → Option Sto) : TSet := fun o i v H Q => ∃ io S a b d S', RS K io S H ∧ RV K io H a o ∧ RV K io H b i ∧ RV K io H d v ∧ g a b d S = some S' ∧ ∀ io' H', Ext K io H io' H' → RS K io' S' H' → Q H'
end
abbrev DS (X : Cx) (W : WX) (st : Stmt) (f : Ev → Sto → AnsS) : Prop := PS X st (tS X.K X.mg W f)
abbrev DSs (X : Cx) (W : WX) (st : List Stmt) (f : Ev → Sto → AnsS) : Prop := PSs X st (tS X.K X.mg W f)
abbrev SetD (X : Cx) (g : D → D → D → Sto → Option Sto) : Prop := PSet X (rMSet X.K g)
section
variable {K : PySem.W.Frag} {mg : Str → Option Value} {W : WX} {α β : Type} {rel : List Addr → Hp → α → β → Prop} {io io' : List Addr} {H H' : Hp} {S S' : Sto} {σ : L2.St} {env env' : Ev} {o : Out}
theorem EndS.mono {E : Ends} (h : EndS K mg W io H o env' S' E) (e : Ext K io H io' H') : EndS K mg W io' H' o env' S' E := by
  cases o with
  | nx => exact fun io2 H2 v e2 => h io2 H2 v (e.trans e2)
  | bk => exact fun io2 H2 v e2 => h io2 H2 v (e.trans e2)
  | ct => exact fun io2 H2 v e2 => h io2 H2 v (e.trans e2)
  | rt d => exact fun io2 H2 v e2 => h io2 H2 v (e.trans e2)
  | ex x => exact fun io2 H2 σ2 c dd e2 => h io2 H2 σ2 c dd (e.trans e2)
theorem tG_bindS {f : Ev → Sto → Ans α} {k : α → Sto → AnsS} {Q : β → Hp → Prop} {E : Ends} (rs : RS K io S H) (re : RE K io H env σ) (h : bindS (f env S) env k = some (o, env', S')) (hE : EndS K mg W io H o env' S' E)
    (hk : ∀ a S1 io1 H1 v, f env S = some (.ok a, S1) → Ext K io H io1 H1 → RS K io1 S1 H1 → RE K io1 H1 env σ → rel io1 H1 a v → k a S1 = some (o, env', S') → EndS K mg W io1 H1 o env' S' E → Q v H1) : tG K mg W rel f σ H Q := by
  cases hf : f env S with
  | none =>
    rw [hf] at h
    cases h
  | some p =>
    obtain ⟨ra, S1⟩ := p
    rw [hf] at h
    cases ra with
    | ok a => exact ⟨io, S, env, .ok a, S1, rs, re, hf, fun io1 H1 v e rs1 rv => hk a S1 io1 H1 v hf e rs1 (re.mono e) rv h (hE.mono e)⟩
    | ex e =>
      cases h
      exact ⟨io, S, env, .ex e, _, rs, re, hf, fun io1 H1 c dd e1 rs1 rx => hE io1 H1 σ c dd e1 rs1 (re.mono e1) rx⟩
end
/-! ### targets -/
inductive Tg where
  | nm (i : Nat) | tp (l : List Tg)
mutual
def Tg.put : Tg → D → Ev → Option Ev
  | .nm i, d, env => some (env.set i (some d))
  | .tp l, .tup ds, env => Tg.puts l ds env
  | .tp _, _, _ => none
def Tg.puts : List Tg → List D → Ev → Option Ev
  | [], [], env => some env
  | t :: ts, d :: ds, env => match Tg.put t d env with
    | some env1 => Tg.puts ts ds env1
    | none => none
  | _, _, _ => none
end
mutual
def Tg.slots : Tg → List Nat
  | .nm i => [i]
  | .tp l => Tg.slotss l
def Tg.slotss : List Tg → List Nat
  | [] => []
  | t :: ts => Tg.slots t ++ Tg.slotss ts
end
theorem Tg.puts_len : ∀ {l : List Tg} {ds : List D} {env env' : Ev}, Tg.puts l ds env = some env' → ds.length = l.length
  | [], [], _, _, _ => rfl
  | t :: ts, d :: ds, env, env', h => by
    unfold Tg.puts at h
    split at h
    · simpa using Tg.puts_len h
    · cases h
  | [], _ :: _, _, _, h => by simp [Tg.puts] at h
  | _ :: _, [], _, _, h => by simp [Tg.puts] at h
section
variable (K : PySem.W.Frag)
def tTg (t : Tg) : TG := fun v σ H Q => ∃ io env d env', RE K io H env σ ∧ RV K io H d v ∧ t.put d env = some env' ∧ ∀ σ', RE K io H env' σ' → (∀ j, j ∉ t.slots → σ'[j]? = σ[j]?) → σ'.length = σ.length → Q σ' H
def tTgs (t : List Tg) : TGs := fun vs σ H Q => ∃ io env ds env', RE K io H env σ ∧ RVs K io H ds vs ∧ Tg.puts t ds env = some env' ∧ ∀ σ', RE K io H env' σ' → (∀ j, j ∉ Tg.slotss t → σ'[j]? = σ[j]?) → σ'.length = σ.length → Q σ' H
end
section
variable {X : Cx} {pos : Pos}
theorem pg_weak {tg : Expr} {t t' : TG} (h : PG X tg t) (w : ∀ v σ H Q, t' v σ H Q → t v σ H Q) : PG X tg t' := ⟨fun pins s σ H v u Q I r q => h.run pins s σ H v u Q I r (w v σ H Q q)⟩
theorem pgs_weak {tg : List Expr} {t t' : TGs} (h : PGs X tg t) (w : ∀ v σ H Q, t' v σ H Q → t v σ H Q) : PGs X tg t' := ⟨fun pins s σ H v u Q I r q => h.run pins s σ H v u Q I r (w v σ H Q q)⟩
theorem dg_name {i : Nat} {x : Str} (hN : X.N.Nodup) (hi : X.N[i]? = some x) (hx : Loc X.env.scope x) (hf : X.fn x = true ∨ X.env.scope.names.lookup x = some .local := by first | exact .inl rfl | exact .inr rfl | assumption) : PG X (.Name x pos) (tTg X.K (.nm i)) :=
  pg_weak (pg_name hN hi hx hf) fun v σ H Q ⟨io, env, d, env', re, rv, hp, q⟩ => by
    unfold Tg.put at hp
    cases hp
    refine q _ (re.set i rv) (fun j hj => List.getElem?_set_ne fun z => hj ?_) (by simp)
    simp [Tg.slots, z]
theorem dgs_nil : PGs X [] (tTgs X.K []) := pgs_weak pgs_nil fun vs σ H Q ⟨io, env, ds, env', re, rv, hp, q⟩ => by
  have e := Tg.puts_len hp
  cases ds with
  | cons _ _ => simp at e
  | nil =>
    unfold RVs at rv
    unfold Tg.puts at hp
    cases hp
    exact ⟨rv, q σ re (fun _ _ => rfl) rfl⟩
theorem dgs_cons {e : Expr} {es : List Expr} {t : Tg} {ts : List Tg} (h1 : PG X e (tTg X.K t)) (h2 : PGs X es (tTgs X.K ts))
    (hs : (assignEach (e :: es) X.env).map (·.2) = assign e X.env :: (assignEach es X.env).map (·.2) := by rfl) : PGs X (e :: es) (tTgs X.K (t :: ts)) :=
  pgs_weak (pgs_cons h1 h2 hs) fun vs σ H Q ⟨io, env, ds, env', re, rv, hp, q⟩ => by
    cases ds with
    | nil => simp [Tg.puts] at hp
    | cons d ds =>
      unfold RVs at rv
      obtain ⟨v, r, rfl, rv1, rv2⟩ := rv
      unfold Tg.puts at hp
      split at hp
      · rename_i env1 h1
        refine ⟨v, r, rfl, io, env, d, env1, re, rv1, h1, fun σ1 re1 f1 l1 => ⟨io, env1, ds, env', re1, rv2, hp, fun σ2 re2 f2 l2 => q σ2 re2 (fun j hj => ?_) (l2.trans l1)⟩⟩
        have hj' : j ∉ t.slots ∧ j ∉ Tg.slotss ts := by simpa [Tg.slotss] using hj
        exact (f2 j hj'.2).trans (f1 j hj'.1)
      · cases hp
theorem dg_tup {es : List Expr} {k : Nat} {ts : List Tg} (hc : X.calm = true) (h : PGs X es (tTgs X.K ts)) (hl : ts.length = es.length := by rfl)
    (hn : (assignEach es X.env).length = es.length := by rfl) (hst : (assignEach es X.env).findIdx? (·.1) = none := by rfl) : PG X (.Tuple es k pos) (tTg X.K (.tp ts)) :=
  pg_weak (pg_tup hc h hn hst) fun v σ H Q ⟨io, env, d, env', re, rv, hp, q⟩ => by
    cases d with
    | tup ds =>
      unfold RV at rv
      obtain ⟨a, vs, rfl, h1, h2⟩ := rv
      unfold Tg.put at hp
      exact ⟨a, vs, rfl, h1, by rw [← h2.length, Tg.puts_len hp, hl], io, env, ds, env', re, h2, hp, fun σ' re' f l => q σ' re' (by simpa [Tg.slots] using f) l⟩
    | non => simp [Tg.put] at hp
    | bl _ => simp [Tg.put] at hp
    | int _ => simp [Tg.put] at hp
    | str _ => simp [Tg.put] at hp
    | ref _ => simp [Tg.put] at hp
end
/-! ### the computations -/
def sNext : Ev → Sto → AnsS := fun env S => some (.nx, env, S)
def sSeq (f g : Ev → Sto → AnsS) : Ev → Sto → AnsS := fun env S => match f env S with
  | some (.nx, env1, S1) => g env1 S1
  | x => x
def sAsg (t : Tg) (fe : Ev → Sto → Ans D) : Ev → Sto → AnsS := fun env S => bindS (fe env S) env fun d S1 => match t.put d env with
  | some env1 => some (.nx, env1, S1)
  | none => none
def sSub (g : D → D → D → Sto → Option Sto) (fe fo fi : Ev → Sto → Ans D) : Ev → Sto → AnsS := fun env S => bindS (fe env S) env fun d S1 => bindS (fo env S1) env fun o S2 => bindS (fi env S2) env fun i S3 => match g o i d S3 with
  | some S4 => some (.nx, env, S4)
  | none => none
def sAug (i : Nat) (g : D → D → Sto → Option (D × Sto)) (fe : Ev → Sto → Ans D) : Ev → Sto → AnsS := fun env S => match env[i]? with
  | some (some x) => bindS (fe env S) env fun y S1 => match g x y S1 with
    | some (z, S2) => some (.nx, env.set i (some z), S2)
    | none => none
  | _ => none
def sAugS (gg gp : D → D → Sto → Option (D × Sto)) (gs : D → D → D → Sto → Option Sto) (fo fi fe : Ev → Sto → Ans D) : Ev → Sto → AnsS := fun env S =>
  bindS (fo env S) env fun o S1 => bindS (fi env S1) env fun i S2 => bindS (okO (gg o i S2)) env fun x S3 => bindS (fe env S3) env fun y S4 => bindS (okO (gp x y S4)) env fun z S5 => match gs o i z S5 with
  | some S6 => some (.nx, env, S6)
  | none => none
def sExpr (fe : Ev → Sto → Ans D) : Ev → Sto → AnsS := fun env S => bindS (fe env S) env fun _ S1 => some (.nx, env, S1)
def sRet (fe : Ev → Sto → Ans D) : Ev → Sto → AnsS := fun env S => bindS (fe env S) env fun d S1 => some (.rt d, env, S1)
def sIf (fc : Ev → Sto → Ans Bool) (f g : Ev → Sto → AnsS) : Ev → Sto → AnsS := fun env S => bindS (fc env S) env fun c S1 => if c = true then f env S1 else g env S1
def whileD (fc : Ev → Sto → Ans Bool) (fb : Ev → Sto → AnsS) : Nat → Ev → Sto → AnsS
  | 0, _, _ => none
  | n + 1, env, S => bindS (fc env S) env fun c S1 => if c = true then match fb env S1 with
      | some (.nx, env2, S2) => whileD fc fb n env2 S2
      | some (.ct, env2, S2) => whileD fc fb n env2 S2
      | some (.bk, env2, S2) => some (.nx, env2, S2)
      | x => x
    else some (.nx, env, S1)
def sWhile (n : Nat) (fc : Ev → Sto → Ans Bool) (fb : Ev → Sto → AnsS) : Ev → Sto → AnsS := whileD fc fb n
/-- what a loop walks: its items, as long as ok holds -/
structure Wk where
  ok : Sto → Prop
  items : List D
open Classical in
noncomputable def forD (ok : Sto → Prop) (t : Tg) (fb : Ev → Sto → AnsS) : List D → Ev → Sto → AnsS
  | [], env, S => if ok S then some (.nx, env, S) else none
  | x :: xs, env, S => if ok S then match t.put x env with
      | none => none
      | some env1 => match fb env1 S with
        | some (.nx, env2, S2) => forD ok t fb xs env2 S2
        | some (.ct, env2, S2) => forD ok t fb xs env2 S2
        | some (.bk, env2, S2) => some (.nx, env2, S2)
        | y => y
    else none
noncomputable def sFor (fi : Ev → Sto → Ans Wk) (t : Tg) (fb : Ev → Sto → AnsS) : Ev → Sto → AnsS := fun env S => bindS (fi env S) env fun w S1 => forD w.ok t fb w.items env S1
section
variable (K : PySem.W.Frag) (mg : Str → Option Value) (W : WX)
def ItOk (io0 : List Addr) (H0 : Hp) (w : Wk) (J : It) : Prop := ∀ (i : Nat) (io : List Addr) (S : Sto) (H : Hp), Ext K io0 H0 io H → RS K io S H → w.ok S →
  (w.items.length ≤ i → J.stop i H) ∧ ∀ x, w.items[i]? = some x → J.go i H ∧ ∀ v H', J.yld i H v H' → ∃ io', Ext K io H io' H' ∧ RS K io' S H' ∧ RV K io' H' x v
def tIM (fi : Ev → Sto → Ans Wk) : TI := tG K mg W (ItOk K) fi
end
abbrev DI (X : Cx) (W : WX) (tg e : Expr) (fi : Ev → Sto → Ans Wk) : Prop := PI X tg e (tIM X.K X.mg W fi)
/-! ### the rules -/
section
variable {X : Cx} {W : WX} {st : Stmt} {rest : List Stmt} {e a b : Expr} {f g : Ev → Sto → AnsS} {fe fo fi : Ev → Sto → Ans D} {pos : Pos}
theorem dss_nil : DSs X W [] sNext := pss_weak pss_nil fun E σ H ⟨io, S, env, o, env', S', rs, re, hf, hE⟩ => by
  cases hf
  exact hE io H σ Ext.refl rs re
theorem dss_cons (h1 : DS X W st f) (h2 : DSs X W rest g) : DSs X W (st :: rest) (sSeq f g) := pss_weak (pss_cons h1 h2) fun E σ H ⟨io, S, env, o, env', S', rs, re, hf, hE⟩ => by
  unfold sSeq at hf
  cases h : f env S with
  | none =>
    rw [h] at hf
    cases hf
  | some p =>
    obtain ⟨o1, env1, S1⟩ := p
    rw [h] at hf
    cases o1 with
    | nx => exact ⟨io, S, env, .nx, env1, S1, rs, re, h, fun io1 H1 σ1 e1 rs1 re1 => ⟨io1, S1, env1, o, env', S', rs1, re1, hf, hE.mono e1⟩⟩
    | rt d => cases hf; exact ⟨io, S, env, _, _, _, rs, re, h, hE⟩
    | bk => cases hf; exact ⟨io, S, env, _, _, _, rs, re, h, hE⟩
    | ct => cases hf; exact ⟨io, S, env, _, _, _, rs, re, h, hE⟩
    | ex x => cases hf; exact ⟨io, S, env, _, _, _, rs, re, h, hE⟩
theorem dss_one (h1 : DS X W st f) : DSs X W [st] f := pss_one h1
theorem ds_set {i : Nat} {x : Str} {pos' : Pos} (hN : X.N.Nodup) (hi : X.N[i]? = some x) (hx : Loc X.env.scope x) (he : DE X W e fe) (hs : swapsWith e (some (.Name x pos')) pos.line X.env = pure false := by rfl) (hf : X.fn x = true ∨ X.env.scope.names.lookup x = some .local := by first | exact .inl rfl | exact .inr rfl | assumption) :
    DS X W (.Assign [.Name x pos'] e pos) (sAsg (.nm i) fe) := ps_weak (ps_set hN hi hx he hs hf) fun E σ H ⟨io, S, env, o, env', S', rs, re, hf, hE⟩ =>
  tG_bindS rs re hf hE fun d S1 io1 H1 v _ e1 rs1 re1 rv h1 hE1 => by
    simp only [Tg.put] at h1
    cases h1
    exact hE1 io1 H1 _ Ext.refl rs1 (re1.set i rv)
theorem ds_sub {oe ie : Expr} {p : Pos} {gs : D → D → D → Sto → Option Sto} (hs' : SetD X gs) (he : DE X W e fe) (ho : DE X W oe fo) (hi : DE X W ie fi)
    (ha : ∀ v, assign (.Subscript oe ie p) X.env v = (do
      let ov ← holding [v] (eval oe X.env)
      let iv ← holding [v, ov] (eval ie X.env)
      standAt p
      holding [v, ov, iv] (setItem ov iv v)
      release [v, ov, iv] []) := by intro _; rfl) (hs : swapsWithSole [.Subscript oe ie p] e pos.line X.env = pure false := by rfl) (hw : swappedStores [.Subscript oe ie p] e X.env = pure none := by rfl)
    (h1 : (assignEach [.Subscript oe ie p] X.env).map (·.2) = [assign (.Subscript oe ie p) X.env] := by rfl) : DS X W (.Assign [.Subscript oe ie p] e pos) (sSub gs fe fo fi) := ps_weak (ps_asg he (pg_sub ho hi hs' ha) hs hw h1) fun E σ H ⟨io, S, env, o, env', S', rs, re, hf, hE⟩ =>
  tG_bindS rs re hf hE fun d S1 io1 H1 v _ e1 rs1 re1 rv h1 hE1 => tG_bindS rs1 re1 h1 hE1 fun o2 S2 io2 H2 v2 _ e2 rs2 re2 rv2 h2 hE2 => tG_bindS rs2 re2 h2 hE2 fun i3 S3 io3 H3 v3 _ e3 rs3 re3 rv3 h3 hE3 => by
    cases hp : gs o2 i3 d S3 with
    | none =>
      rw [hp] at h3
      cases h3
    | some S4 =>
      rw [hp] at h3
      cases h3
      exact ⟨io3, S3, o2, i3, d, _, rs3, RV.mono e3 _ _ rv2, rv3, RV.mono (e2.trans e3) _ _ rv, hp, fun io4 H4 e4 rs4 => hE3 io4 H4 σ e4 rs4 (re3.mono e4)⟩
theorem ds_aug {i : Nat} {x : Str} {op : Operator} {g : D → D → Sto → Option (D × Sto)} {pos' : Pos} (hN : X.N.Nodup) (hi : X.N[i]? = some x) (hx : Loc X.env.scope x) (ho : OpD X (inplaceOp op) g) (he : DE X W e fe) (hf : X.fn x = true ∨ X.env.scope.names.lookup x = some .local := by first | exact .inl rfl | exact .inr rfl | assumption) :
    DS X W (.AugAssign (.Name x pos') op e pos) (sAug i g fe) := ps_weak (ps_aug (ti := rM X.K g) hN hi hx he ho hf) fun E σ H ⟨io, S, env, o, env', S', rs, re, hf, hE⟩ => by
  unfold sAug at hf
  split at hf
  · rename_i d hd
    obtain ⟨u, hu1, hu2⟩ := re.get i d hd
    refine ⟨u, hu1, tG_bindS rs re hf hE fun y S1 io1 H1 v _ e1 rs1 re1 rv h1 hE1 => ?_⟩
    cases hp : g d y S1 with
    | none =>
      rw [hp] at h1
      cases h1
    | some q =>
      obtain ⟨z, S2⟩ := q
      rw [hp] at h1
      cases h1
      exact ⟨io1, S1, d, y, z, _, rs1, RV.mono e1 _ _ hu2, rv, hp, fun io2 H2 v2 e2 rs2 rv2 => hE1 io2 H2 _ e2 rs2 ((re1.mono e2).set i rv2)⟩
  · cases hf
theorem ds_expr (he : DE X W e fe) (hs : swapsWith e none pos.line X.env = pure false := by rfl) : DS X W (.Expr e pos) (sExpr fe) := ps_weak (ps_expr he hs) fun E σ H ⟨io, S, env, o, env', S', rs, re, hf, hE⟩ =>
  tG_bindS rs re hf hE fun d S1 io1 H1 v _ e1 rs1 re1 rv h1 hE1 => by
    cases h1
    exact hE1 io1 H1 σ Ext.refl rs1 re1
theorem ds_ret (he : DE X W e fe) : DS X W (.Return (some e) pos) (sRet fe) := ps_weak (ps_ret he) fun E σ H ⟨io, S, env, o, env', S', rs, re, hf, hE⟩ =>
  tG_bindS rs re hf hE fun d S1 io1 H1 v _ e1 rs1 re1 rv h1 hE1 => by
    cases h1
    exact hE1 io1 H1 v Ext.refl rs1 rv
theorem ds_if {c : Expr} {p q : List Stmt} {gc : Ev → Sto → Ans Bool} (hc : DT X W c gc) (ha : DSs X W p f) (hb : DSs X W q g) : DS X W (.If c p q pos) (sIf gc f g) := ps_weak (ps_if hc ha hb) fun E σ H ⟨io, S, env, o, env', S', rs, re, hf, hE⟩ =>
  tG_bindS rs re hf hE fun d S1 io1 H1 v _ e1 rs1 re1 rv h1 hE1 => by
    cases rv
    cases d with
    | true => exact ⟨io1, S1, env, o, env', S', rs1, re1, h1, hE1⟩
    | false => exact ⟨io1, S1, env, o, env', S', rs1, re1, h1, hE1⟩
theorem ds_while (n : Nat) {c : Expr} {body : List Stmt} {gc : Ev → Sto → Ans Bool} (hp : PassesOwn (model X.prog X.w) X.A X.env X.xe) (hc : DT X W c gc) (hb : DSs X W body f) : DS X W (.While c body [] pos) (sWhile n gc f) := ps_weak (ps_while hp hc hb) fun E σ H ⟨io, S, env, o, env', S', rs, re, hf, hE⟩ => by
  refine ⟨fun m σ H => ∃ io S env, RS X.K io S H ∧ RE X.K io H env σ ∧ whileD gc f m env S = some (o, env', S') ∧ EndS X.K X.mg W io H o env' S' E, ⟨n, io, S, env, rs, re, hf, hE⟩, ?_⟩
  rintro m σ H ⟨io, S, env, rs, re, hf, hE⟩
  cases m with
  | zero => cases hf
  | succ m =>
    refine tG_bindS rs re hf hE fun d S1 io1 H1 v _ e1 rs1 re1 rv h1 hE1 => ?_
    cases rv
    cases d with
    | false =>
      cases h1
      exact hE1 io1 H1 σ Ext.refl rs1 re1
    | true =>
      rw [if_pos rfl]
      rw [if_pos rfl] at h1
      refine ⟨fun σ' H' => ∃ io S env, RS X.K io S H' ∧ RE X.K io H' env σ' ∧ whileD gc f m env S = some (o, env', S') ∧ EndS X.K X.mg W io H' o env' S' E, fun σ' H' q => ⟨m, Nat.lt_succ_self _, q⟩, ?_⟩
      cases hb : f env S1 with
      | none => rw [hb] at h1; cases h1
      | some p =>
        obtain ⟨o2, env2, S2⟩ := p
        rw [hb] at h1
        cases o2 with
        | nx => exact ⟨io1, S1, env, _, _, _, rs1, re1, hb, fun io2 H2 σ2 e2 rs2 re2 => ⟨io2, S2, env2, rs2, re2, h1, hE1.mono e2⟩⟩
        | ct => exact ⟨io1, S1, env, _, _, _, rs1, re1, hb, fun io2 H2 σ2 e2 rs2 re2 => ⟨io2, S2, env2, rs2, re2, h1, hE1.mono e2⟩⟩
        | bk => cases h1; exact ⟨io1, S1, env, _, _, _, rs1, re1, hb, hE1⟩
        | rt d => cases h1; exact ⟨io1, S1, env, _, _, _, rs1, re1, hb, hE1⟩
        | ex x => cases h1; exact ⟨io1, S1, env, _, _, _, rs1, re1, hb, hE1⟩
theorem ds_for {tg iter : Expr} {body : List Stmt} {fw : Ev → Sto → Ans Wk} {t : Tg} (hp : PassesOwn (model X.prog X.w) X.A X.env X.xe) (hc : X.calm = true) (hi : DI X W tg iter fw) (hg : PG X tg (tTg X.K t)) (hb : DSs X W body f) (hs : ∀ x, foldedSetIterable iter X.env x = pure x := by intro _; rfl) : DS X W (.For tg iter body [] pos) (sFor fw t f) := ps_weak (ps_for hp hc hi hg hb hs) fun E σ H ⟨io, S, env, o, env', S', rs, re, hf, hE⟩ => by
  refine tG_bindS rs re hf hE fun w S1 io1 H1 J _ e1 rs1 re1 ok h1 hE1 => ?_
  refine ⟨fun i m σ H => m = w.items.length - i ∧ ∃ io S env, Ext X.K io1 H1 io H ∧ RS X.K io S H ∧ RE X.K io H env σ ∧ forD w.ok t f (w.items.drop i) env S = some (o, env', S') ∧ EndS X.K X.mg W io H o env' S' E, ⟨_, rfl, io1, S1, env, Ext.refl, rs1, re1, by simpa using h1, hE1⟩, ?_⟩
  rintro i m σ H ⟨rfl, io, S, env, ex, rs, re, hf, hE⟩
  by_cases hi : i < w.items.length
  · rw [List.drop_eq_getElem_cons hi] at hf
    unfold forD at hf
    split at hf
    · rename_i hok
      obtain ⟨_, hgo⟩ := ok i io S H ex rs hok
      obtain ⟨hgo, hyl⟩ := hgo _ (List.getElem?_eq_getElem hi)
      refine .inr ⟨hgo, fun σ' H' => ∃ io S env, Ext X.K io1 H1 io H' ∧ RS X.K io S H' ∧ RE X.K io H' env σ' ∧ forD w.ok t f (w.items.drop (i + 1)) env S = some (o, env', S') ∧ EndS X.K X.mg W io H' o env' S' E, fun σ' H' q => ⟨_, by omega, rfl, q⟩, fun x H' hy => ?_⟩
      obtain ⟨io', ex', rs', rv⟩ := hyl x H' hy
      split at hf
      · cases hf
      · rename_i env1 hput
        refine ⟨io', env, _, env1, re.mono ex', rv, hput, fun σ2 re2 _ _ => ?_⟩
        cases hbo : f env1 S with
        | none => rw [hbo] at hf; cases hf
        | some p =>
          obtain ⟨o2, env2, S2⟩ := p
          rw [hbo] at hf
          cases o2 with
          | nx => exact ⟨io', S, env1, _, _, _, rs', re2, hbo, fun io2 H2 σ2 e2 rs2 re2 => ⟨io2, S2, env2, (ex.trans ex').trans e2, rs2, re2, hf, (hE.mono ex').mono e2⟩⟩
          | ct => exact ⟨io', S, env1, _, _, _, rs', re2, hbo, fun io2 H2 σ2 e2 rs2 re2 => ⟨io2, S2, env2, (ex.trans ex').trans e2, rs2, re2, hf, (hE.mono ex').mono e2⟩⟩
          | bk => cases hf; exact ⟨io', S, env1, _, _, _, rs', re2, hbo, hE.mono ex'⟩
          | rt d => cases hf; exact ⟨io', S, env1, _, _, _, rs', re2, hbo, hE.mono ex'⟩
          | ex x => cases hf; exact ⟨io', S, env1, _, _, _, rs', re2, hbo, hE.mono ex'⟩
    · cases hf
  · rw [List.drop_eq_nil_of_le (by omega)] at hf
    unfold forD at hf
    split at hf
    · rename_i hok
      cases hf
      exact .inl ⟨(ok i io _ H ex rs hok).1 (by omega), hE io H σ Ext.refl rs re⟩
    · cases hf
end
end DL
namespace DL
open PySem PySem.Spec PyProof.Rows L2 RT RZ
/-! ### what is walked -/
def wSeq (fe : Ev → Sto → Ans D) : Ev → Sto → Ans Wk := fun env S => bindR (fe env S) fun d S1 => match seqOf d S1 with
  | some ds => some (.ok ⟨fun S => seqOf d S = some ds, ds⟩, S1)
  | none => none
def rangeL (lo : Int) (n : Nat) : List D := (List.range n).map fun (k : Nat) => D.int (lo + k)
/-- an end that a range may have -/
def RgB (j : Int) : Prop := -(2 ^ 62) ≤ j ∧ j < 2 ^ 62
noncomputable instance (j : Int) : Decidable (RgB j) := Classical.propDecidable _
theorem RgB.of {j : Int} (h : j.natAbs ≤ 1000000000000) : RgB j := ⟨by omega, by omega⟩
noncomputable def wRange (fs : Ev → Sto → Ans (List D)) : Ev → Sto → Ans Wk := fun env S => bindR (fs env S) fun ds S1 => match ds with
  | [.int j] => if RgB j then some (.ok ⟨fun _ => True, rangeL 0 j.toNat⟩, S1) else none
  | [.int i, .int j] => if RgB i ∧ RgB j then some (.ok ⟨fun _ => True, rangeL i (j - i).toNat⟩, S1) else none
  | _ => none
def wRev (fe : Ev → Sto → Ans D) : Ev → Sto → Ans Wk := fun env S => bindR (fe env S) fun d S1 => match seqOf d S1 with
  | some ds => some (.ok ⟨fun S => seqOf d S = some ds, ds.reverse⟩, S1)
  | none => none
def zipD (xs ys : List D) : List D := (xs.zip ys).map fun p => D.tup [p.1, p.2]
def isTup : D → Bool
  | .tup _ => true
  | _ => false
def enumD (xs : List D) : List D := (xs.zipIdx).map fun p => D.tup [.int p.2, p.1]
section
variable {K : PySem.W.Frag} {io : List Addr} {S : Sto} {H : Hp}
theorem seq_ref {n : Nat} {ds : List D} (h : seqOf (.ref n) S = some ds) : S[n]? = some (.lst ds) ∨ S[n]? = some (.rol ds) := by
  simp only [seqOf] at h
  split at h
  · cases h
    exact .inl (by assumption)
  · cases h
    exact .inr (by assumption)
  · cases h
theorem ItOk.list {a : Addr} {n : Nat} {ds : List D} (ha : io[n]? = some a) : ItOk K io H ⟨fun S => seqOf (.ref n) S = some ds, ds⟩ (Itl K a) := fun i io' S' H' ex rs ok => by
  obtain ⟨b, vs, e1, e2, e3, e4⟩ := rs.seq (seq_ref ok) (show RV K io' H' (.ref n) (.ref a) by unfold RV; exact ⟨a, ex.get ha, rfl⟩)
  cases e1
  refine ⟨fun hi => ⟨vs, e3, by rw [← e4.length]; exact hi⟩, fun x hx => ?_⟩
  obtain ⟨v, h1, h2⟩ := e4.get hx
  refine ⟨⟨vs, v, e3, h1⟩, fun w H2 hy => ?_⟩
  obtain ⟨rfl, hy⟩ := hy
  have := hy vs e3
  rw [h1] at this
  cases this
  exact ⟨io', Ext.refl, rs, h2⟩
theorem ItOk.tup {a : Addr} {vs : List V} {ds : List D} (ok : Sto → Prop) (ha : SqT K H a vs) (hd : RVs K io H ds vs) : ItOk K io H ⟨ok, ds⟩ (Itt K a) := fun i io' S' H' ex rs _ => by
  have e3 := ex.tup a vs ha
  have e4 := RVs.mono ex ds vs hd
  refine ⟨fun hi => ⟨vs, e3, by rw [← e4.length]; exact hi⟩, fun x hx => ?_⟩
  obtain ⟨v, h1, h2⟩ := e4.get hx
  refine ⟨⟨vs, v, e3, h1⟩, fun w H2 hy => ?_⟩
  obtain ⟨rfl, hy⟩ := hy
  have := hy vs e3
  rw [h1] at this
  cases this
  exact ⟨io', Ext.refl, rs, h2⟩
theorem rangeL_get {lo : Int} {n i : Nat} {x : D} (h : (rangeL lo n)[i]? = some x) : i < n ∧ x = .int (lo + i) := by
  unfold rangeL at h
  rw [List.getElem?_map] at h
  by_cases hi : i < n
  · rw [List.getElem?_range hi] at h
    cases h
    exact ⟨hi, rfl⟩
  · rw [List.getElem?_eq_none (by simpa using hi)] at h
    cases h
theorem rangeL_length {lo : Int} {n : Nat} : (rangeL lo n).length = n := by simp [rangeL]
theorem ItOk.range {lo : Int} {n : Nat} (ok : Sto → Prop) : ItOk K io H ⟨ok, rangeL lo n⟩ (Itr lo n) := fun i io' S' H' ex rs _ => by
  refine ⟨fun hi => by have h : n ≤ i := by simpa [rangeL] using hi
                       exact h, fun x hx => ?_⟩
  obtain ⟨hi, rfl⟩ := rangeL_get hx
  refine ⟨hi, fun w H2 hy => ?_⟩
  obtain ⟨rfl, rfl⟩ := hy
  exact ⟨io', Ext.refl, rs, by simp [RV]⟩
theorem ItOk.str {x : Str} (ok : Sto → Prop) : ItOk K io H ⟨ok, x.cps.toList.map fun c => D.str ⟨#[c]⟩⟩ (Its x) := fun i io' S' H' ex rs _ => by
  have stp : ((x.cps.toList.map fun c => D.str ⟨#[c]⟩).length ≤ i → (Its x).stop i H') := fun hi => by
    have h : x.cps.size ≤ i := by simpa using hi
    exact h
  refine ⟨stp, fun y hy => ?_⟩
  have hy0 : (x.cps.toList.map fun c => D.str ⟨#[c]⟩)[i]? = some y := hy
  rw [List.getElem?_map] at hy0
  cases hc : x.cps.toList[i]? with
  | none => rw [hc] at hy0; cases hy0
  | some c =>
    rw [hc] at hy0
    cases hy0
    have hi : i < x.cps.size := by simpa using (List.getElem?_eq_some_iff.mp hc).1
    refine ⟨hi, fun w H2 hy => ?_⟩
    obtain ⟨rfl, c', h1, rfl⟩ := hy
    have : c' = c := by
      have h2 : x.cps[i]? = some c := by simpa using hc
      rw [h1] at h2
      exact Option.some.inj h2
    subst this
    exact ⟨io', Ext.refl, rs, by simp [RV]⟩
theorem tup2 {io' : List Addr} {H' : Hp} {T : Addr} {a b : D} {x y : V} (hT : H' T = none) (r1 : RV K io' H' a x) (r2 : RV K io' H' b y) : RV K io' (upd H' T (.tup [x, y])) (.tup [a, b]) (.ref T) := by
  unfold RV
  exact ⟨T, _, rfl, SqT.of upd_same, RVs.cons (RV.mono (Ext.fresh hT) _ _ r1) (RVs.one (RV.mono (Ext.fresh hT) _ _ r2))⟩
theorem ItOk.enum {a : Addr} {n : Nat} {ds : List D} (ha : io[n]? = some a) : ItOk K io H ⟨fun S => seqOf (.ref n) S = some ds, enumD ds⟩ (Ite K a) := fun i io' S' H' ex rs ok => by
  obtain ⟨b, vs, e1, e2, e3, e4⟩ := rs.seq (seq_ref ok) (show RV K io' H' (.ref n) (.ref a) by unfold RV; exact ⟨a, ex.get ha, rfl⟩)
  cases e1
  refine ⟨fun hi => ⟨vs, e3, by rw [← e4.length]; simpa [enumD] using hi⟩, fun x hx => ?_⟩
  have hx0 : (enumD ds)[i]? = some x := hx
  unfold enumD at hx0
  rw [List.getElem?_map, List.getElem?_zipIdx] at hx0
  cases hd : ds[i]? with
  | none => rw [hd] at hx0; cases hx0
  | some d =>
    rw [hd] at hx0
    cases hx0
    obtain ⟨v, h1, h2⟩ := e4.get hd
    refine ⟨⟨vs, v, e3, h1⟩, fun w H2 hy => ?_⟩
    obtain ⟨T, x, rfl, hT, rfl, hy⟩ := hy
    have := hy vs e3
    rw [h1] at this
    cases this
    refine ⟨io', Ext.fresh hT, rs.tupNew hT, ?_⟩
    have := tup2 (K := K) (a := .int ((i : Nat) : Int)) (x := .int ((i : Nat) : Int)) hT (by simp [RV]) h2
    simpa using this
theorem zip_get {xs ys : List D} {i : Nat} {z : D} (h : (zipD xs ys)[i]? = some z) : ∃ x y, xs[i]? = some x ∧ ys[i]? = some y ∧ z = .tup [x, y] := by
  unfold zipD at h
  rw [List.getElem?_map] at h
  cases hz : (xs.zip ys)[i]? with
  | none => rw [hz] at h; cases h
  | some p =>
    rw [hz] at h
    cases h
    obtain ⟨h1, h2⟩ := List.getElem?_zip_eq_some.mp hz
    exact ⟨p.1, p.2, h1, h2, rfl⟩
theorem ItOk.zip {a b : Addr} {n m : Nat} {xs ys : List D} (ha : io[n]? = some a) (hb : io[m]? = some b) : ItOk K io H ⟨fun S => seqOf (.ref n) S = some xs ∧ seqOf (.ref m) S = some ys, zipD xs ys⟩ (Itz K a b) := fun i io' S' H' ex rs ok => by
  obtain ⟨_, vs, e1, e2, e3, e4⟩ := rs.seq (seq_ref ok.1) (show RV K io' H' (.ref n) (.ref a) by unfold RV; exact ⟨a, ex.get ha, rfl⟩)
  cases e1
  obtain ⟨_, ws, f1, f2, f3, f4⟩ := rs.seq (seq_ref ok.2) (show RV K io' H' (.ref m) (.ref b) by unfold RV; exact ⟨b, ex.get hb, rfl⟩)
  cases f1
  refine ⟨fun hi => ⟨vs, ws, e3, f3, by rw [← e4.length, ← f4.length]; simp [zipD] at hi; omega⟩, fun z hz => ?_⟩
  obtain ⟨x, y, h1, h2, rfl⟩ := zip_get hz
  obtain ⟨v, p1, p2⟩ := e4.get h1
  obtain ⟨w, q1, q2⟩ := f4.get h2
  refine ⟨⟨vs, ws, v, w, e3, f3, p1, q1⟩, fun u H2 hy => ?_⟩
  obtain ⟨T, x', y', rfl, hT, rfl, k1, k2⟩ := hy
  have := k1 vs e3
  rw [p1] at this
  cases this
  have := k2 ws f3
  rw [q1] at this
  cases this
  exact ⟨io', Ext.fresh hT, rs.tupNew hT, tup2 hT p2 q2⟩
end
section
variable {X : Cx} {W : WX} {e e2 tg : Expr} {es : List Expr} {fe : Ev → Sto → Ans D} {fs : Ev → Sto → Ans (List D)} {pos p tpos : Pos} {elts : List Expr} {kk : Nat}
/-- a list or a tuple -/
theorem di_seq (he : DE X W e fe) : DI X W tg e (wSeq fe) := pi_weak (pi_or (pi_list he) (pi_tup he)) fun σ H R ⟨io, S, env, r, S', rs, re, hf, hE⟩ => by
  unfold wSeq at hf
  cases hd : fe env S with
  | none => rw [hd] at hf; cases hf
  | some q =>
    obtain ⟨ra, S1⟩ := q
    cases ra with
    | ex x =>
      rw [hd] at hf
      cases hf
      exact .inl ⟨io, S, env, _, _, rs, re, hd, hE⟩
    | ok d =>
      by_cases ht : isTup d = true
      · refine .inr (tG_bind2 rs re hf hE fun d' S1' io1 H1 v hd' e1 rs1 re1 rv1 h1 hE1 => ?_)
        rw [hd] at hd'
        cases hd'
        cases d <;> first | cases ht | skip
        rename_i ds
        unfold RV at rv1
        obtain ⟨a, vs, rfl, e2, e3⟩ := rv1
        cases h1
        exact ⟨a, rfl, ⟨vs, e2⟩, hE1.now rs1 (ItOk.tup _ e2 e3)⟩
      · refine .inl (tG_bind2 rs re hf hE fun d' S1' io1 H1 v hd' e1 rs1 re1 rv1 h1 hE1 => ?_)
        rw [hd] at hd'
        cases hd'
        cases hs : seqOf d S1 with
        | none => rw [hs] at h1; cases h1
        | some ds =>
          rw [hs] at h1
          cases h1
          cases d with
          | ref n =>
            obtain ⟨a, vs, rfl, e2, e3, e4⟩ := rs1.seq (seq_ref hs) rv1
            exact ⟨a, rfl, ⟨vs, e3⟩, hE1.now rs1 (ItOk.list e2)⟩
          | tup _ => exact absurd rfl ht
          | non => cases hs
          | bl _ => cases hs
          | int _ => cases hs
          | str _ => cases hs
theorem RVs.int1 {K : PySem.W.Frag} {io : List Addr} {H : Hp} {j : Int} {vs : List V} (h : RVs K io H [.int j] vs) : vs = [.int j] := by
  simp only [RVs, RV] at h
  obtain ⟨v, r, rfl, rfl, rfl⟩ := h
  rfl
theorem RVs.int2 {K : PySem.W.Frag} {io : List Addr} {H : Hp} {i j : Int} {vs : List V} (h : RVs K io H [.int i, .int j] vs) : vs = [.int i, .int j] := by
  simp only [RVs, RV] at h
  obtain ⟨v, r, rfl, rfl, w, r2, rfl, rfl, rfl⟩ := h
  rfl
theorem one_of {ds : List D} (h : ds.length = 1) : ∃ d, ds = [d] := by
  match ds, h with
  | [d], _ => exact ⟨d, rfl⟩
theorem di_range1 (hg : Gl X "range") (hm : X.mg "range" = none) (ha : DA X W [e] fs)
    (hf1 : ∀ env S ds S', fs env S = some (.ok ds, S') → ds.length = 1) (hs : starEach [e] X.env = [(false, eval e X.env)] := by rfl) : DI X W tg (.Call (.Name "range" p) [e] [] pos) (wRange fs) :=
  pi_weak (pi_range1 hg hm ha hs) fun σ H R ⟨io, S, env, r, S', rs, re, hf, hE⟩ => tG_bind2 rs re hf hE fun ds S1 io1 H1 v hd e1 rs1 re1 rv1 h1 hE1 => by
    obtain ⟨d, rfl⟩ := one_of (hf1 _ _ _ _ hd)
    cases d with
    | int j =>
      simp only at h1
      split at h1
      · rename_i hb
        cases h1
        exact ⟨j, RVs.int1 rv1, hb.1, hb.2, hE1.now rs1 (ItOk.range _)⟩
      · cases h1
    | _ => cases h1
theorem len_nil : ∀ env S ds S', dNil env S = some (.ok ds, S') → ds.length = 0 := fun _ _ _ _ h => by
  cases h
  rfl
theorem bindR_ok {α β : Type} {x : Ans α} {k : α → Sto → Ans β} {b : β} {S' : Sto} (h : bindR x k = some (.ok b, S')) : ∃ a S, x = some (.ok a, S) ∧ k a S = some (.ok b, S') := by
  unfold bindR at h
  split at h
  · cases h
  · cases h
  · exact ⟨_, _, rfl, h⟩
theorem len_cons {n : Nat} (h : ∀ env S ds S', fs env S = some (.ok ds, S') → ds.length = n) : ∀ env S ds S', dCons fe fs env S = some (.ok ds, S') → ds.length = n + 1 := fun env S ds S' q => by
  obtain ⟨a, S1, _, q⟩ := bindR_ok q
  obtain ⟨b, S2, q1, q⟩ := bindR_ok q
  cases q
  simp [h _ _ _ _ q1]
end
end DL
namespace DL
open PySem PySem.Spec PyProof.Rows L2 RT RZ
/-! ### list comprehensions -/
def wipeE (env : Ev) : List Nat → Ev
  | [] => env
  | v :: vs => (wipeE env vs).set v none
theorem RE.wipe {K : PySem.W.Frag} {io : List Addr} {H : Hp} {env : Ev} {σ : L2.St} (h : RE K io H env σ) : ∀ vs : List Nat, RE K io H (wipeE env vs) (wipe σ vs)
  | [] => h
  | v :: vs => by
    have q := RE.wipe h vs
    refine ⟨by simp [wipeE, L2.wipe, q.len], fun i d e => ?_⟩
    unfold wipeE at e
    unfold L2.wipe
    by_cases hi : v = i
    · subst hi
      by_cases hv : v < (wipeE env vs).length
      · rw [List.getElem?_set_self hv] at e
        cases e
      · rw [List.getElem?_eq_none (by simpa using hv)] at e
        cases e
    · rw [List.getElem?_set_ne hi] at e ⊢
      exact q.get i d e
theorem wipe_at (σ : L2.St) (i : Nat) : ∀ vs : List Nat, (wipe σ vs)[i]? = if i ∈ vs then (if i < σ.length then some none else none) else σ[i]?
  | [] => by simp [L2.wipe]
  | v :: vs => by
    unfold L2.wipe
    by_cases hv : v = i
    · subst hv
      rw [if_pos (List.mem_cons_self)]
      by_cases hl : v < σ.length
      · rw [List.getElem?_set_self (by rw [wipe_length]; exact hl), if_pos hl]
      · rw [List.getElem?_eq_none (by rw [List.length_set, wipe_length]; omega), if_neg hl]
    · rw [List.getElem?_set_ne hv, wipe_at σ i vs]
      have : i ∈ v :: vs ↔ i ∈ vs := by
        simp only [List.mem_cons]
        exact ⟨fun h => h.elim (fun z => absurd z.symm hv) id, .inr⟩
      simp only [this]
theorem wipe_same {σ σ' : L2.St} {vs : List Nat} (f : ∀ j, j ∉ vs → σ'[j]? = (wipe σ vs)[j]?) (l : σ'.length = (wipe σ vs).length) : wipe σ' vs = wipe σ vs := by
  apply List.ext_getElem?
  intro i
  rw [wipe_at σ' i vs]
  by_cases hi : i ∈ vs
  · rw [if_pos hi, wipe_at σ i vs, if_pos hi, l, wipe_length]
  · rw [if_neg hi, f i hi]
open Classical in
noncomputable def lcD (ok : Sto → Prop) (t : Tg) (gt : Ev → Sto → Ans Bool) (fe : Ev → Sto → Ans D) (env : Ev) (n : Nat) : List D → Sto → Option Sto
  | [], S => if ok S then some S else none
  | x :: xs, S => if ok S then match t.put x env with
      | none => none
      | some env1 => match gt env1 S with
        | some (.ok true, S1) => match fe env1 S1 with
          | some (.ok y, S2) => match S2[n]? with
            | some (.lst acc) => if acc.length < sizeLine then lcD ok t gt fe env n xs (S2.set n (.lst (acc ++ [y]))) else none
            | _ => none
          | _ => none
        | some (.ok false, S1) => lcD ok t gt fe env n xs S1
        | _ => none
    else none
noncomputable def dLc (fw : Ev → Sto → Ans Wk) (t : Tg) (gt : Ev → Sto → Ans Bool) (fe : Ev → Sto → Ans D) (vs : List Nat) : Ev → Sto → Ans D := fun env S => bindR (fw env S) fun w S1 =>
  match lcD w.ok t gt fe (wipeE env vs) S1.length w.items (S1 ++ [.lst []]) with
  | some S2 => some (.ok (.ref S1.length), S2)
  | none => none
def dTrue : Ev → Sto → Ans Bool := fun _ S => some (.ok true, S)
section
variable {X : Cx} {W : WX}
theorem pts_weak {ifs : List Expr} {t t' : TT} (h : PTs X ifs t) (w : ∀ σ H Q, t' σ H Q → t σ H Q) : PTs X ifs t' := ⟨fun pins s σ H Q I q => h.run pins s σ H Q I (w σ H Q q)⟩
theorem dts_nil : PTs X [] (tMT X.K X.mg W dTrue) := pts_weak pts_nil fun σ H Q ⟨io, S, env, r, S', rs, re, hf, hE⟩ => by
  cases hf
  exact hE.now rs rfl
theorem dts_one {c : Expr} {gt : Ev → Sto → Ans Bool} (h : DT X W c gt) : PTs X [c] (tMT X.K X.mg W gt) := pts_one h
end
theorem lc_read {K : PySem.W.Frag} {mg : Str → Option Value} {W : WX} {fw : Ev → Sto → Ans Wk} {t : Tg} {gt : Ev → Sto → Ans Bool} {fe : Ev → Sto → Ans D} {vs : List Nat} (hsub : ∀ j ∈ t.slots, j ∈ vs) {σ : L2.St} {H : Hp} {Q : VK} (h : tM K mg W (dLc fw t gt fe vs) σ H Q) :
    tLc (tIM K mg W fw) (tTg K t) (tMT K mg E0x gt) (tM K mg E0x fe) vs σ H Q := by
  obtain ⟨io, S, env, r, S', rs, re, hf, hE⟩ := h
  refine tG_bind rs re hf hE fun w S1 io1 H1 J e1 rs1 re1 ok h1 hE1 => fun D hD => ?_
  cases hl : lcD w.ok t gt fe (wipeE env vs) S1.length w.items (S1 ++ [.lst []]) with
  | none => rw [hl] at h1; cases h1
  | some S2 =>
    rw [hl] at h1
    cases h1
    have rs0 := rs1.lstNew hD RVs.nil
    have ex0 : Ext K io1 H1 (io1 ++ [D]) (upd H1 D (.lst [])) := Ext.new hD
    have at0 : (io1 ++ [D])[S1.length]? = some D := rs1.lastNew
    refine ⟨fun i m H => m = w.items.length - i ∧ ∃ io S, Ext K (io1 ++ [D]) (upd H1 D (.lst [])) io H ∧ RS K io S H ∧ lcD w.ok t gt fe (wipeE env vs) S1.length (w.items.drop i) S = some S', ⟨_, rfl, _, _, Ext.refl, rs0, by simpa using hl⟩, ?_⟩
    rintro i m H ⟨rfl, io, S, ex, rs, hf⟩
    have hat : io[S1.length]? = some D := ex.get at0
    by_cases hi : i < w.items.length
    · rw [List.drop_eq_getElem_cons hi] at hf
      unfold lcD at hf
      split at hf
      · rename_i hok
        obtain ⟨_, hgo⟩ := ok i io S H (ex0.trans ex) rs hok
        obtain ⟨hgo, hyl⟩ := hgo _ (List.getElem?_eq_getElem hi)
        refine .inr ⟨hgo, fun H' => ∃ io S, Ext K (io1 ++ [D]) (upd H1 D (.lst [])) io H' ∧ RS K io S H' ∧ lcD w.ok t gt fe (wipeE env vs) S1.length (w.items.drop (i + 1)) S = some S', fun H' q => ⟨_, by omega, rfl, q⟩, fun x H' hy => ?_⟩
        obtain ⟨io', ex', rs', rv⟩ := hyl x H' hy
        have reW : RE K io' H' (wipeE env vs) (wipe σ vs) := ((re1.mono ex0).mono (ex.trans ex')).wipe vs
        split at hf
        · cases hf
        · rename_i env1 hput
          refine ⟨io', _, _, env1, reW, rv, hput, fun σ2 re2 f2 l2 => ⟨wipe_same (fun j hj => f2 j fun z => hj (hsub j z)) l2, ?_⟩⟩
          split at hf
          · rename_i Sa hg
            refine ⟨io', S, env1, .ok true, Sa, rs', re2, hg, fun io3 H3 b e3 rs3 eb => ?_⟩
            cases eb
            rw [if_pos rfl]
            split at hf
            · rename_i y Sb he
              refine ⟨io3, Sa, env1, .ok y, Sb, rs3, re2.mono e3, he, fun io4 H4 v e4 rs4 rv4 => ?_⟩
              split at hf
              · rename_i acc hacc
                split at hf
                · rename_i hsz
                  have hat4 : io4[S1.length]? = some D := e4.get (e3.get (ex'.get hat))
                  have hD4 := rs4.obj _ _ _ hacc hat4
                  obtain ⟨ws, w1, w2⟩ := hD4
                  obtain ⟨rs5, ex5⟩ := rs4.write hacc hat4 (w2.append (RVs.one rv4))
                  exact ⟨ws, w1, by rw [← w2.length]; exact hsz, io4, _, (((ex.trans ex').trans e3).trans e4).trans ex5, rs5, hf⟩
                · cases hf
              · cases hf
            · cases hf
          · rename_i Sa hg
            refine ⟨io', S, env1, .ok false, Sa, rs', re2, hg, fun io3 H3 b e3 rs3 eb => ?_⟩
            cases eb
            rw [if_neg Bool.false_ne_true]
            exact ⟨io3, Sa, (ex.trans ex').trans e3, rs3, hf⟩
          · cases hf
      · cases hf
    · rw [List.drop_eq_nil_of_le (by omega)] at hf
      unfold lcD at hf
      split at hf
      · rename_i hok
        cases hf
        refine .inl ⟨(ok i io _ H (ex0.trans ex) rs hok).1 (by omega), hE1 io H (.ref D) (ex0.trans ex) rs ?_⟩
        unfold RV
        exact ⟨D, hat, rfl⟩
      · cases hf
section
variable {X : Cx} {W : WX} {elt tg iter : Expr} {ifs : List Expr} {scope : Scope} {own : List (Str × Nat)} {pos : Pos} {fw : Ev → Sto → Ans Wk} {t : Tg} {gt : Ev → Sto → Ans Bool} {fe : Ev → Sto → Ans D}
theorem d_lc (hc : X.calm = true) (hN : X.N.Nodup) (hi : DI X W tg iter fw) (ok : BlkOk X.N X.env.scope scope own)
    (hg : ∀ (s : Shared) (H : Hp) (C : Addr) (cl : List (Str × Addr)) (fp : List Addr), PG (X.blk s H scope (compEnvC scope cl C X.env) fp) tg (tTg X.K t))
    (ht : ∀ (s : Shared) (H : Hp) (C : Addr) (cl : List (Str × Addr)) (fp : List Addr), PTs (X.blk s H scope (compEnvC scope cl C X.env) fp) ifs (tMT X.K X.mg E0x gt))
    (he : ∀ (s : Shared) (H : Hp) (C : Addr) (cl : List (Str × Addr)) (fp : List Addr), DE (X.blk s H scope (compEnvC scope cl C X.env) fp) E0x elt fe) (hsub : ∀ j ∈ t.slots, j ∈ own.map (·.2)) (hs : ∀ x, foldedSetIterable iter X.env x = pure x := by intro _; rfl) :
    DE X W (.ListComp elt [⟨tg, iter, ifs, 0⟩] scope pos) (dLc fw t gt fe (own.map (·.2))) := pe_weak (pe_lc hc hN hi ok hg ht he hs) fun _ _ _ h => lc_read hsub h
theorem ds_setLc {i : Nat} {y : Str} {py spos : Pos} (hc : X.calm = true) (hN : X.N.Nodup) (hy : X.N[i]? = some y) (hyl : X.env.scope.names.lookup y = some .local)
    (hsw : swapsWith (.ListComp elt [⟨tg, iter, ifs, 0⟩] scope pos) (some (.Name y py)) spos.line X.env = pure true) (hi : DI X W tg iter fw) (ok : BlkOk X.N X.env.scope scope own)
    (hg : ∀ (s : Shared) (H : Hp) (C : Addr) (cl : List (Str × Addr)) (fp : List Addr), PG (X.blk s H scope (compEnvC scope cl C X.env) fp) tg (tTg X.K t))
    (ht : ∀ (s : Shared) (H : Hp) (C : Addr) (cl : List (Str × Addr)) (fp : List Addr), PTs (X.blk s H scope (compEnvC scope cl C X.env) fp) ifs (tMT X.K X.mg E0x gt))
    (he : ∀ (s : Shared) (H : Hp) (C : Addr) (cl : List (Str × Addr)) (fp : List Addr), DE (X.blk s H scope (compEnvC scope cl C X.env) fp) E0x elt fe) (hsub : ∀ j ∈ t.slots, j ∈ own.map (·.2)) (hs : ∀ x, foldedSetIterable iter X.env x = pure x := by intro _; rfl) :
    DS X W (.Assign [.Name y py] (.ListComp elt [⟨tg, iter, ifs, 0⟩] scope pos) spos) (sAsg (.nm i) (dLc fw t gt fe (own.map (·.2)))) :=
  ps_weak (ps_setLc hc hN hy hyl hsw hi ok hg ht he hs) fun E σ H ⟨io, S, env, o, env', S', rs, re, hf, hE⟩ => lc_read hsub (tG_bindS rs re hf hE fun d S1 io1 H1 v _ e1 rs1 re1 rv h1 hE1 => by
    simp only [Tg.put] at h1
    cases h1
    exact hE1 io1 H1 _ Ext.refl rs1 (re1.set i rv))
end
/-! ### calls that may let an exception out at these slots -/
theorem call_ends {CX' : CXT} {X : Cx} {pins : List (Addr × Obj)} {σ : L2.St} {H : Hp} {s : Shared} {Q : VK} {E : XK} {f : Addr} {ar : List Value} {kw : List (Str × Value)} (hx : PassesAt CX' X σ E) (I : Inv X pins σ H s)
    (h : codeAny (model X.prog X.w) X.A (.call (.ref f) ⟨ar, kw⟩) (CR CX' X.stack X.prog X.w H s Q E) s) : wpAny (model X.prog X.w) X.A (call (.ref f) ar kw) (EP X pins σ Q) X.xe s :=
  wpAny_call (codeAny_mono h fun r t ht => by
    match r, ht with
    | .error e, ht => exact hx pins H s e t I ht
    | .ok (.ret u), ht => exact I.after ht
    | .ok .next, ht => exact ht.elim
    | .ok .brk, ht => exact ht.elim
    | .ok .cont, ht => exact ht.elim)
section
variable {CX' : CXT} {X : Cx} {E : L2.St → XK} {k n : Nat} {f : Addr} {fd : FuncData} {ps : List Str} {sp : Sp} {ds : List Value} {dvs : List V} {x : Str} {p pos : Pos} {e : Expr} {es : List Expr} {t : TA}
def tCallA (sp : Sp) (dvs : List V) (E : L2.St → XK) (t : TA) : TE := fun σ H Q => t σ H fun vs H1 => sp (vs ++ dvs) H1 Q (E σ)
theorem run_atA {pins : List (Addr × Obj)} {σ : L2.St} {H : Hp} {s : Shared} {Q : VK} {us : List Value} {vs : List V} (F : FnOk X.prog X.w X.K X.mg X.base CX' k f fd ps sp) (hr : Room k X.A) (hb : Binds X.K fd ps ds) (hd : Vals dvs ds)
    (hx : PassesAt CX' X σ (E σ)) (I : Inv X pins σ H s) (r : Vals vs us) (h : sp (vs ++ dvs) H Q (E σ)) : wpAny (model X.prog X.w) X.A (call (.ref f) us) (EP X pins σ Q) X.xe s := by
  have rr : Vals (vs ++ dvs) (us ++ ds) := r.append hd
  have ll : (us ++ ds).length = ps.length := rr.length.symm.trans (F.len _ _ _ _ h)
  exact call_ends hx I (F.run X.A X.stack s H _ _ _ Q (E σ) hr I.env0 (hb s us I.kIn ll) rr h)
theorem pe_callA (F : FnOk X.prog X.w X.K X.mg X.base CX' k f fd ps sp) (hr : Room k X.A) (hg : Gl X x) (hm : X.mg x = some (.ref f)) (hk : PySem.W.keepIn X.K (.ref f) = true) (hb : Binds X.K fd ps ds) (hd : Vals dvs ds) (hx : ∀ σ, PassesAt CX' X σ (E σ))
    (ha : PA X (e :: es) t) (hdb : (x == ("__debug__" : Str)) = false := by decide) (he : starEach (e :: es) X.env = (false, eval e X.env) :: starEach es X.env := by rfl) (hpl : (backTo pos (starEach es X.env)).any (·.1) = false := by rfl) :
    PE X (.Call (.Name x p) (e :: es) [] pos) (tCallA sp dvs E t) := ⟨fun pins s σ H Q I q => by
  refine wpAny_Call_Name_kw (ld_glob I hg hm ?_ hdb)
  exact PySem.W.callWith_K (h₀ := X.base) I.ok.mod.kin hk (thn (ha.run pos pins s σ H _ I q) fun us t ⟨vs, H2, J, r, w⟩ => ⟨J.kIn, run_atA F hr hb hd (hx σ) J r w⟩) he hpl⟩
end
/-! ### defs and their calls -/
abbrev Mir := List D → Sto → Ans D
def spM (K : PySem.W.Frag) (mg : Str → Option Value) (f : Mir) : Sp := fun vs H Q E => ∃ io S ds r S', RS K io S H ∧ RVs K io H ds vs ∧ f ds S = some (r, S') ∧ EndG K mg E (RV K) io H r S' Q
def runB (n m : Nat) (fb : Ev → Sto → AnsS) : Mir := fun ds S => if ds.length = n then match fb (ds.map some ++ List.replicate (m - n) none) S with
    | some (.nx, _, S') => some (.ok .non, S')
    | some (.rt d, _, S') => some (.ok d, S')
    | some (.ex e, _, S') => some (.ex e, S')
    | _ => none
  else none
def dCall (f : Mir) (fs : Ev → Sto → Ans (List D)) : Ev → Sto → Ans D := fun env S => bindR (fs env S) fun ds S1 => f ds S1
theorem RE.start {K : PySem.W.Frag} {io : List Addr} {H : Hp} : ∀ {ds : List D} {vs : List V}, RVs K io H ds vs → ∀ k : Nat, RE K io H (ds.map some ++ List.replicate k none) (vs.map some ++ List.replicate k none) := fun {ds vs} h k => by
  refine ⟨by simp [h.length], fun i d e => ?_⟩
  by_cases hi : i < ds.length
  · rw [List.getElem?_append_left (by simpa using hi), List.getElem?_map] at e
    cases hd : ds[i]? with
    | none => rw [hd] at e; cases e
    | some d' =>
      rw [hd] at e
      cases e
      obtain ⟨v, e1, e2⟩ := h.get hd
      refine ⟨v, ?_, e2⟩
      rw [List.getElem?_append_left (by rw [List.length_map, ← h.length]; exact hi), List.getElem?_map, e1]
      rfl
  · rw [List.getElem?_append_right (by simpa using hi), List.getElem?_replicate] at e
    split at e <;> cases e
section
variable {P : Program} {w : World} {K : PySem.W.Frag} {mg : Str → Option Value} {base : Heap}
/-- as the kit's rule, for any way in which an exception leaves -/
theorem funAny {CX' : CXT} {x qual : Str} {st : Stmt} {f : Addr} {fd : FuncData} {N ps : List Str} {k : Nat} {sp : Sp} (F : Fun K x qual st f fd) (S : FnScope N ps (defScope st)) (len : ∀ vs H Q E, sp vs H Q E → vs.length = ps.length)
    (hbody : ∀ (cdv : Value) (A : Around) (outer : List Env) (s : Shared) (H : Hp) (vs : List V) (Q : VK) (E : XK), Room k (A.deeper (envOfC qual (defScope st) s.heap.objs.size f cdv)) → sp vs H Q E →
      ∃ t, PSs (cxOf CX' P w K mg base N qual (defScope st) f cdv A outer s H E) (defBody st) t ∧ t { nx := fun _ H' => Q .non H', rt := Q } (start N vs) H) : FnOk P w K mg base CX' (k + 1) f fd ps sp := by
  obtain ⟨_, _, _, _, _, _, cdv, _, _, rfl, lk, hcd⟩ := F.ex
  exact fn_of lk hcd S len (hbody cdv)
/-- THE RULE of a def: by its body -/
theorem fn_body {x qual : Str} {st : Stmt} {f : Addr} {fd : FuncData} {N ps : List Str} {k : Nat} {fb : Ev → Sto → AnsS} (F : Fun K x qual st f fd) (S : FnScope N ps (defScope st))
    (hb : ∀ (cdv : Value) (A : Around) (outer : List Env) (s : Shared) (H : Hp) (E : XK), Room k (A.deeper (envOfC qual (defScope st) s.heap.objs.size f cdv)) → DSs (cxOf (L2N.CX P w) P w K mg base N qual (defScope st) f cdv A outer s H E) (XW E) (defBody st) fb) :
    FnOk P w K mg base (L2N.CX P w) (k + 1) f fd ps (spM K mg (runB ps.length N.length fb)) := by
  refine funAny F S (fun vs H Q E h => ?_) (fun cdv A outer s H vs Q E hr h => ⟨_, hb cdv A outer s H E hr, ?_⟩)
  · obtain ⟨io, S, ds, r, S', rs, rv, hf, hE⟩ := h
    unfold runB at hf
    split at hf
    · rename_i hl
      rw [← hl, rv.length]
    · cases hf
  · obtain ⟨io, S0, ds, r, S', rs, rv, hf, hE⟩ := h
    unfold runB at hf
    split at hf
    · rename_i hl
      have re : RE K io H (ds.map some ++ List.replicate (N.length - ps.length) none) (start N vs) := by
        unfold L2.start
        rw [← rv.length, hl]
        exact RE.start rv _
      cases hb : fb (ds.map some ++ List.replicate (N.length - ps.length) none) S0 with
      | none => rw [hb] at hf; cases hf
      | some q =>
        obtain ⟨o, env', S1⟩ := q
        rw [hb] at hf
        cases o with
        | nx => cases hf; exact ⟨io, S0, _, .nx, env', _, rs, re, hb, fun io' H' σ' e rs' _ => hE io' H' .non e rs' (by simp [RV])⟩
        | rt d => cases hf; exact ⟨io, S0, _, .rt d, env', _, rs, re, hb, fun io' H' v e rs' rv => hE io' H' v e rs' rv⟩
        | ex x => cases hf; exact ⟨io, S0, _, .ex x, env', _, rs, re, hb, fun io1 H1 _ c dd e1 rs1 _ rx => hE io1 H1 c dd e1 rs1 rx⟩
        | bk => cases hf
        | ct => cases hf
    · cases hf
/-- a promise that says less: each end that c tells, f tells too, but for what lies behind in the store -/
def D.cl (n : Nat) : D → Prop
  | .ref m => m < n
  | .tup l => ∀ d ∈ l, D.cl n d
  | _ => True
end
section
variable {X : Cx} {W : WX} {f : Addr} {fd : FuncData} {ps : List Str} {k : Nat} {m : Mir} {x : Str} {p pos : Pos} {e : Expr} {es : List Expr} {fs : Ev → Sto → Ans (List D)}
theorem d_call {CX' : CXT} (F : FnOk X.prog X.w X.K X.mg X.base CX' k f fd ps (spM X.K X.mg m)) (hr : Room k X.A) (hg : Gl X x) (hm : X.mg x = some (.ref f)) (hk : PySem.W.keepIn X.K (.ref f) = true) (hb : Binds X.K fd ps []) (hx : ∀ σ, PassesAt CX' X σ (WE W σ))
    (ha : DA X W (e :: es) fs) (hdb : (x == ("__debug__" : Str)) = false := by decide) (he : starEach (e :: es) X.env = (false, eval e X.env) :: starEach es X.env := by rfl) (hpl : (backTo pos (starEach es X.env)).any (·.1) = false := by rfl) :
    DE X W (.Call (.Name x p) (e :: es) [] pos) (dCall m fs) := pe_weak (pe_callA (E := WE W) F hr hg hm hk hb .nil hx ha hdb he hpl) fun σ H Q ⟨io, S, env, r, S', rs, re, hf, hE⟩ =>
  tG_bind rs re hf hE fun ds S1 io1 H1 v e1 rs1 re1 rv1 h1 hE1 => ⟨io1, S1, ds, r, S', rs1, by rw [List.append_nil]; exact rv1, h1, hE1⟩
end
end DL
namespace DL
open PySem PySem.Spec PyProof.Rows L2 RT RZ
/-! ### data as the library's data -/
mutual
def D.py : D → Option PyData
  | .non => some .none
  | .bl b => some (.bool b)
  | .int i => some (.int i)
  | .str x => some (.str x)
  | .tup l => match D.pys l with
    | some ps => some (.tuple ps)
    | none => none
  | .ref _ => none
def D.pys : List D → Option (List PyData)
  | [] => some []
  | d :: ds => match D.py d, D.pys ds with
    | some p, some ps => some (p :: ps)
    | _, _ => none
end
def toPy (S : Sto) (d : D) : Option PyData := match d with
  | .ref n => match seqOf (.ref n) S with
    | some ds => match D.pys ds with
      | some ps => some (.list ps)
      | none => none
    | none => none
  | d => d.py
section
variable {K : PySem.W.Frag} {io : List Addr} {H : Hp} {S : Sto}
mutual
theorem py_Dp : ∀ (d : D) (v : V) (p : PyData), RV K io H d v → d.py = some p → Dp K H v p
  | .non, _, _, h, e => by simp only [RV] at h; subst h; cases e; exact .non
  | .bl _, _, _, h, e => by simp only [RV] at h; subst h; cases e; exact .bl _
  | .int _, _, _, h, e => by simp only [RV] at h; subst h; cases e; exact .int _
  | .str _, _, _, h, e => by simp only [RV] at h; subst h; cases e; exact .str _
  | .tup l, v, p, h, e => by
    simp only [RV] at h
    obtain ⟨a, vs, rfl, h1, h2⟩ := h
    simp only [D.py] at e
    split at e
    · rename_i ps hp
      cases e
      exact .tup h1 (pys_Dp l vs ps h2 hp)
    · cases e
  | .ref _, _, _, _, e => by cases e
theorem pys_Dp : ∀ (ds : List D) (vs : List V) (ps : List PyData), RVs K io H ds vs → D.pys ds = some ps → DpAll K H vs ps
  | [], _, _, h, e => by simp only [RVs] at h; subst h; cases e; exact .nil
  | d :: ds, _, ps, h, e => by
    simp only [RVs] at h
    obtain ⟨v, r, rfl, h1, h2⟩ := h
    simp only [D.pys] at e
    split at e
    · rename_i p q hp hq
      cases e
      exact .cons (py_Dp d v p h1 hp) (pys_Dp ds r q h2 hq)
    · cases e
end
theorem toPy_Dp {d : D} {v : V} {p : PyData} (rs : RS K io S H) (r : RV K io H d v) (h : toPy S d = some p) : Dp K H v p := by
  cases d with
  | ref n =>
    simp only [toPy] at h
    split at h
    · rename_i ds hs
      split at h
      · rename_i ps hp
        cases h
        obtain ⟨a, vs, rfl, e2, e3, e4⟩ := rs.seq (seq_ref hs) r
        exact .lst e3 (pys_Dp ds vs ps e4 hp)
      · cases h
    · cases h
  | _ => exact py_Dp _ v p r h
end
/-! ### two-place operations -/
open Classical in
noncomputable def gAdd : D → D → Sto → Option (D × Sto)
  | .int i, .int j, S => some (.int (i + j), S)
  | .str x, .str y, S => if x.length + y.length ≤ sizeLine then some (.str (x ++ y), S) else none
  | .tup xs, .tup ys, S => if xs.length + ys.length ≤ sizeLine then some (.tup (xs ++ ys), S) else none
  | .ref l, .ref m, S => match S[l]?, S[m]? with
    | some (.lst xs), some (.lst ys) => if xs.length + ys.length ≤ sizeLine then some (.ref S.length, S ++ [.lst (xs ++ ys)]) else none
    | _, _ => none
  | .int i, .bl k, S => some (.int (i + b2i k), S)
  | _, _, _ => none
def gSub : D → D → Sto → Option (D × Sto)
  | .int i, .int j, S => some (.int (i - j), S)
  | _, _, _ => none
open Classical in
noncomputable def gMul : D → D → Sto → Option (D × Sto)
  | .int i, .int j, S => if CMul i j ∨ CMulW i j ∨ IntMulOk i j then some (.int (i * j), S) else none
  | .str x, .int n, S => if MulOk x n then some (.str (Txt.mul x n), S) else none
  | .ref l, .int k, S => match S[l]? with
    | some (.lst xs) => if -(2 ^ 63) ≤ k ∧ k < 2 ^ 63 ∧ xs.length * k.toNat ≤ sizeLine then some (.ref S.length, S ++ [.lst (List.replicate k.toNat xs).flatten]) else none
    | _ => none
  | _, _, _ => none
open Classical in
noncomputable def gFdiv : D → D → Sto → Option (D × Sto)
  | .int i, .int j, S => if CDivW i j then some (.int (i / j), S) else none
  | _, _, _ => none
def gMod : D → D → Sto → Option (D × Sto)
  | .int i, .int j, S => if 0 < j then some (.int (i % j), S) else none
  | _, _, _ => none
open Classical in
noncomputable def gPow : D → D → Sto → Option (D × Sto)
  | .int i, .int j, S => if CPow i j then some (.int (i ^ j.toNat), S) else none
  | _, _, _ => none
def deepEq (a b : D) (S : Sto) : Option Bool := match toPy S a, toPy S b with
  | some d, some e => if SeqAt.shaped d = true ∧ SeqAt.shaped e = true then some (PyData.eqv d e) else none
  | _, _ => none
def eqB : D → D → Sto → Option Bool
  | .int i, .int j, _ => some (decide (i = j))
  | .str x, .str y, _ => some (decide (x = y))
  | .bl x, .bl y, _ => some (decide (x = y))
  | .non, .non, _ => some true
  | .non, .str _, _ => some false
  | .str _, .non, _ => some false
  | a, b, S => deepEq a b S
def blS (x : Option Bool) (S : Sto) : Option (D × Sto) := match x with
  | some b => some (.bl b, S)
  | none => none
def gEq (a b : D) (S : Sto) : Option (D × Sto) := blS (eqB a b S) S
def gNe (a b : D) (S : Sto) : Option (D × Sto) := blS ((eqB a b S).map (!·)) S
def gLt : D → D → Sto → Option (D × Sto)
  | .int i, .int j, S => some (.bl (decide (i < j)), S)
  | .str x, .str y, S => some (.bl (decide (x.cps.toList < y.cps.toList)), S)
  | _, _, _ => none
def gLe : D → D → Sto → Option (D × Sto)
  | .int i, .int j, S => some (.bl (decide (i ≤ j)), S)
  | .str x, .str y, S => some (.bl (!decide (y.cps.toList < x.cps.toList)), S)
  | _, _, _ => none
def gGt : D → D → Sto → Option (D × Sto)
  | .int i, .int j, S => some (.bl (decide (j < i)), S)
  | .str x, .str y, S => some (.bl (decide (y.cps.toList < x.cps.toList)), S)
  | _, _, _ => none
def gGe : D → D → Sto → Option (D × Sto)
  | .int i, .int j, S => some (.bl (decide (j ≤ i)), S)
  | .str x, .str y, S => some (.bl (!decide (x.cps.toList < y.cps.toList)), S)
  | _, _, _ => none
def D.flat : D → Bool
  | .non => true
  | .bl _ => true
  | .int _ => true
  | .str _ => true
  | _ => false
def eqF : D → D → Bool
  | .non, .non => true
  | .bl a, .bl b => a == b
  | .bl a, .int b => (if a then 1 else 0) == b
  | .int a, .bl b => a == (if b then 1 else 0)
  | .int a, .int b => a == b
  | .str a, .str b => a == b
  | _, _ => false
def inF (x : D) (xs : List D) : Bool := xs.any fun y => eqF y x
def inB (x y : D) (S : Sto) : Option Bool := match x, y with
  | .str a, .str b => some (!(Builtin.Str.occurrences b a 0 b.length 1).isEmpty)
  | x, y => match seqOf y S with
    | some ds => if x.flat = true ∧ ds.all D.flat = true then some (inF x ds) else none
    | none => none
def gIn (a b : D) (S : Sto) : Option (D × Sto) := blS (inB a b S) S
def gNotIn (a b : D) (S : Sto) : Option (D × Sto) := blS ((inB a b S).map (!·)) S
def gIx (a b : D) (S : Sto) : Option (D × Sto) := match a, b with
  | .str z, .int i => if z.length ≤ sizeLine then match atI z.cps.toList i with
      | some c => some (.str ⟨#[c]⟩, S)
      | none => none
    else none
  | a, .int i => match seqOf a S with
    | some ds => match atI ds i with
      | some d => some (d, S)
      | none => none
    | none => none
  | _, _ => none
section
variable {X : Cx}
theorem sIntII {K : PySem.W.Frag} {io : List Addr} {H : Hp} {i : Int} {v : V} (h : RV K io H (.int i) v) : v = .int i := by simpa [RV] using h
theorem sStr {K : PySem.W.Frag} {io : List Addr} {H : Hp} {i : Str} {v : V} (h : RV K io H (.str i) v) : v = .str i := by simpa [RV] using h
theorem sBl {K : PySem.W.Frag} {io : List Addr} {H : Hp} {i : Bool} {v : V} (h : RV K io H (.bl i) v) : v = .bl i := by simpa [RV] using h
theorem sNon {K : PySem.W.Frag} {io : List Addr} {H : Hp} {v : V} (h : RV K io H .non v) : v = .non := by simpa [RV] using h
theorem mInt {K : PySem.W.Frag} {io : List Addr} {H : Hp} {i : Int} : RV K io H (.int i) (.int i) := by simp [RV]
theorem mStr {K : PySem.W.Frag} {io : List Addr} {H : Hp} {i : Str} : RV K io H (.str i) (.str i) := by simp [RV]
theorem mBl {K : PySem.W.Frag} {io : List Addr} {H : Hp} {i : Bool} : RV K io H (.bl i) (.bl i) := by simp [RV]
theorem mNon {K : PySem.W.Frag} {io : List Addr} {H : Hp} : RV K io H .non .non := by simp [RV]
theorem mRef {K : PySem.W.Frag} {io : List Addr} {H : Hp} {n : Nat} {a : Addr} (h : io[n]? = some a) : RV K io H (.ref n) (.ref a) := by
  unfold RV
  exact ⟨a, h, rfl⟩
theorem o_add : OpD X (binaryOp .Add) gAdd := by
  intro pins s σ H x y v u Q I rx ry h
  obtain ⟨io, S, a, b, d, S', rs, r1, r2, hg, q⟩ := h
  unfold gAdd at hg
  split at hg
  · cases hg
    exact op_add pins s σ H x y v u Q I rx ry ⟨_, _, sIntII r1, sIntII r2, q io H _ Ext.refl rs mInt⟩
  · split at hg
    · rename_i hz
      cases hg
      exact op_add_str pins s σ H x y v u Q I rx ry ⟨_, _, sStr r1, sStr r2, hz, q io H _ Ext.refl rs mStr⟩
    · cases hg
  · split at hg
    · rename_i xs ys hz
      cases hg
      unfold RV at r1 r2
      obtain ⟨a, vs, rfl, p1, p2⟩ := r1
      obtain ⟨b, ws, rfl, p3, p4⟩ := r2
      refine op_catA pins s σ H _ _ v u Q I rx ry ⟨a, b, vs, ws, rfl, rfl, p1, p3, by rw [← p2.length, ← p4.length]; exact hz, fun e => ?_, fun e1 e2 => ?_, fun _ _ p hp => ?_⟩
      · subst e
        have : xs = [] := List.eq_nil_of_length_eq_zero p2.length
        subst this
        refine q io H _ Ext.refl rs ?_
        unfold RV
        exact ⟨b, ws, rfl, p3, by simpa using p4⟩
      · subst e2
        have : ys = [] := List.eq_nil_of_length_eq_zero p4.length
        subst this
        refine q io H _ Ext.refl rs ?_
        unfold RV
        exact ⟨a, vs, rfl, p1, by simpa using p2⟩
      · refine q io _ _ (Ext.fresh hp) (rs.tupNew hp) ?_
        unfold RV
        exact ⟨p, _, rfl, SqT.of upd_same, RVs.mono (Ext.fresh hp) _ _ (p2.append p4)⟩
    · cases hg
  · split at hg
    · rename_i xs ys h1 h2
      split at hg
      · rename_i hz
        cases hg
        obtain ⟨a, vs, rfl, _, p1, p2⟩ := rs.lst h1 r1
        obtain ⟨b, ws, rfl, _, p3, p4⟩ := rs.lst h2 r2
        exact op_cat pins s σ H _ _ v u Q I rx ry ⟨a, b, vs, ws, rfl, rfl, p1, p3, by rw [← p2.length, ← p4.length]; exact hz, fun p hp => q _ _ _ (Ext.new hp) (rs.lstNew hp (p2.append p4)) (mRef rs.lastNew)⟩
      · cases hg
    · cases hg
  · cases hg
    exact op_add_ib pins s σ H x y v u Q I rx ry ⟨_, _, sIntII r1, sBl r2, q io H _ Ext.refl rs mInt⟩
  · cases hg
theorem o_sub : OpD X (binaryOp .Sub) gSub := by
  intro pins s σ H x y v u Q I rx ry h
  obtain ⟨io, S, a, b, d, S', rs, r1, r2, hg, q⟩ := h
  unfold gSub at hg
  split at hg
  · cases hg
    exact op_sub pins s σ H x y v u Q I rx ry ⟨_, _, sIntII r1, sIntII r2, q io H _ Ext.refl rs mInt⟩
  · cases hg
def gIAdd : D → D → Sto → Option (D × Sto)
  | .int i, .int j, S => some (.int (i + j), S)
  | .str x, .str y, S => if x.length + y.length ≤ sizeLine then some (.str (x ++ y), S) else none
  | _, _, _ => none
theorem o_iadd : OpD X (inplaceOp .Add) gIAdd := by
  intro pins s σ H x y v u Q I rx ry h
  obtain ⟨io, S, a, b, d, S', rs, r1, r2, hg, q⟩ := h
  unfold gIAdd at hg
  split at hg
  · cases hg
    exact iop_add pins s σ H x y v u Q I rx ry ⟨_, _, sIntII r1, sIntII r2, q io H _ Ext.refl rs mInt⟩
  · split at hg
    · rename_i hz
      cases hg
      exact iop_add_str pins s σ H x y v u Q I rx ry ⟨_, _, sStr r1, sStr r2, hz, q io H _ Ext.refl rs mStr⟩
    · cases hg
  · cases hg
theorem op_mulI : OpR X (binaryOp .Mult) (rI IntMulOk fun i j => .int (i * j)) := opI fun _ _ _ _ _ _ _ hc q => mul_int q hc
theorem o_mul : OpD X (binaryOp .Mult) gMul := by
  intro pins s σ H x y v u Q I rx ry h
  obtain ⟨io, S, a, b, d, S', rs, r1, r2, hg, q⟩ := h
  unfold gMul at hg
  split at hg
  · split at hg
    · rename_i hc
      cases hg
      rcases hc with hc | hc | hc
      · exact op_mul pins s σ H x y v u Q I rx ry ⟨_, _, sIntII r1, sIntII r2, hc, q io H _ Ext.refl rs mInt⟩
      · exact op_mulW pins s σ H x y v u Q I rx ry ⟨_, _, sIntII r1, sIntII r2, hc, q io H _ Ext.refl rs mInt⟩
      · exact op_mulI pins s σ H x y v u Q I rx ry ⟨_, _, sIntII r1, sIntII r2, hc, q io H _ Ext.refl rs mInt⟩
    · cases hg
  · split at hg
    · rename_i hc
      cases hg
      have e1 := sStr r1
      have e2 := sIntII r2
      subst e1 e2
      obtain ⟨t, rfl⟩ := rx
      obtain ⟨t', rfl⟩ := ry
      exact SB.mul hc fun t2 k => ⟨.str _, H, I.tok _, ⟨_, rfl⟩, q io H _ Ext.refl rs mStr⟩
    · cases hg
  · split at hg
    · rename_i xs h1
      split at hg
      · rename_i hz
        cases hg
        obtain ⟨a, vs, rfl, _, p1, p2⟩ := rs.lst h1 r1
        have rep : ∀ k : Nat, RVs X.K io H (List.replicate k xs).flatten (List.replicate k vs).flatten := fun k => by
          induction k with
          | zero => exact RVs.nil
          | succ k ih =>
            rw [List.replicate_succ, List.replicate_succ, List.flatten_cons, List.flatten_cons]
            exact p2.append ih
        exact op_rep pins s σ H _ _ v u Q I rx ry ⟨a, _, vs, rfl, sIntII r2, p1, hz.1, hz.2.1, by rw [← p2.length]; exact hz.2.2, fun p hp => q _ _ _ (Ext.new hp) (rs.lstNew hp (rep _)) (mRef rs.lastNew)⟩
      · cases hg
    · cases hg
  · cases hg
theorem o_fdiv : OpD X (binaryOp .FloorDiv) gFdiv := by
  intro pins s σ H x y v u Q I rx ry h
  obtain ⟨io, S, a, b, d, S', rs, r1, r2, hg, q⟩ := h
  unfold gFdiv at hg
  split at hg
  · split at hg
    · rename_i hc
      cases hg
      exact op_fdivW pins s σ H x y v u Q I rx ry ⟨_, _, sIntII r1, sIntII r2, hc, q io H _ Ext.refl rs mInt⟩
    · cases hg
  · cases hg
theorem o_mod : OpD X (binaryOp .Mod) gMod := by
  intro pins s σ H x y v u Q I rx ry h
  obtain ⟨io, S, a, b, d, S', rs, r1, r2, hg, q⟩ := h
  unfold gMod at hg
  split at hg
  · split at hg
    · rename_i hc
      cases hg
      exact op_mod pins s σ H x y v u Q I rx ry ⟨_, _, sIntII r1, sIntII r2, hc, q io H _ Ext.refl rs mInt⟩
    · cases hg
  · cases hg
theorem o_pow : OpD X (binaryOp .Pow) gPow := by
  intro pins s σ H x y v u Q I rx ry h
  obtain ⟨io, S, a, b, d, S', rs, r1, r2, hg, q⟩ := h
  unfold gPow at hg
  split at hg
  · split at hg
    · rename_i hc
      cases hg
      exact op_pow pins s σ H x y v u Q I rx ry ⟨_, _, sIntII r1, sIntII r2, hc, q io H _ Ext.refl rs mInt⟩
    · cases hg
  · cases hg
theorem deep_eq {K : PySem.W.Frag} {io : List Addr} {H : Hp} {S : Sto} {a b : D} {x y : V} {r : Bool} (rs : RS K io S H) (r1 : RV K io H a x) (r2 : RV K io H b y) (h : deepEq a b S = some r) : ∃ d e, Dp K H x d ∧ Dp K H y e ∧ SeqAt.shaped d = true ∧ SeqAt.shaped e = true ∧ r = PyData.eqv d e := by
  unfold deepEq at h
  split at h
  · rename_i d e h1 h2
    split at h
    · rename_i hc
      cases h
      exact ⟨d, e, toPy_Dp rs r1 h1, toPy_Dp rs r2 h2, hc.1, hc.2, rfl⟩
    · cases h
  · cases h
theorem eqB_cases {K : PySem.W.Frag} {io : List Addr} {H : Hp} {S : Sto} {a b : D} {x y : V} {r : Bool} (rs : RS K io S H) (r1 : RV K io H a x) (r2 : RV K io H b y) (h : eqB a b S = some r) :
    (scal x y = true ∧ r = decide (x = y)) ∨ ∃ d e, Dp K H x d ∧ Dp K H y e ∧ SeqAt.shaped d = true ∧ SeqAt.shaped e = true ∧ r = PyData.eqv d e := by
  unfold eqB at h
  split at h
  · cases h
    have e1 := sIntII r1; have e2 := sIntII r2
    subst e1 e2
    exact .inl ⟨rfl, by simp⟩
  · cases h
    have e1 := sStr r1; have e2 := sStr r2
    subst e1 e2
    exact .inl ⟨rfl, by simp⟩
  · cases h
    have e1 := sBl r1; have e2 := sBl r2
    subst e1 e2
    exact .inl ⟨rfl, by simp⟩
  · cases h
    have e1 := sNon r1; have e2 := sNon r2
    subst e1 e2
    exact .inl ⟨rfl, by simp⟩
  · cases h
    have e1 := sNon r1; have e2 := sStr r2
    subst e1 e2
    exact .inl ⟨rfl, by simp⟩
  · cases h
    have e1 := sStr r1; have e2 := sNon r2
    subst e1 e2
    exact .inl ⟨rfl, by simp⟩
  · exact .inr (deep_eq rs r1 r2 h)
theorem blS_some {x : Option Bool} {S S' : Sto} {d : D} (h : blS x S = some (d, S')) : ∃ b, x = some b ∧ d = .bl b ∧ S' = S := by
  unfold blS at h
  split at h
  · cases h
    exact ⟨_, rfl, rfl, rfl⟩
  · cases h
theorem o_eq (hu : X.A.units + 64 < cLine) : OpD X (compareOp .Eq) gEq := by
  intro pins s σ H x y v u Q I rx ry h
  obtain ⟨io, S, a, b, d, S', rs, r1, r2, hg, q⟩ := h
  obtain ⟨r, h1, rfl, rfl⟩ := blS_some hg
  rcases eqB_cases rs r1 r2 h1 with ⟨h2, rfl⟩ | ⟨d, e, p1, p2, p3, p4, rfl⟩
  · exact op_eq pins s σ H x y v u Q I rx ry ⟨h2, q io H _ Ext.refl rs mBl⟩
  · exact op_eqD hu pins s σ H x y v u Q I rx ry ⟨d, e, p1, p2, p3, p4, q io H _ Ext.refl rs mBl⟩
theorem o_ne (hu : X.A.units + 64 < cLine) : OpD X (compareOp .NotEq) gNe := by
  intro pins s σ H x y v u Q I rx ry h
  obtain ⟨io, S, a, b, d, S', rs, r1, r2, hg, q⟩ := h
  obtain ⟨r, h1, rfl, rfl⟩ := blS_some hg
  obtain ⟨r', h1', rfl⟩ : ∃ r', eqB a b S' = some r' ∧ r = !r' := by
    cases he : eqB a b S' with
    | none => rw [he] at h1; cases h1
    | some r' => rw [he] at h1; cases h1; exact ⟨r', rfl, rfl⟩
  rcases eqB_cases rs r1 r2 h1' with ⟨h2, rfl⟩ | ⟨d, e, p1, p2, p3, p4, rfl⟩
  · exact op_ne pins s σ H x y v u Q I rx ry ⟨h2, q io H _ Ext.refl rs mBl⟩
  · exact op_neD hu pins s σ H x y v u Q I rx ry ⟨d, e, p1, p2, p3, p4, q io H _ Ext.refl rs mBl⟩
theorem o_lt : OpD X (compareOp .Lt) gLt := by
  intro pins s σ H x y v u Q I rx ry h
  obtain ⟨io, S, a, b, d, S', rs, r1, r2, hg, q⟩ := h
  unfold gLt at hg
  split at hg
  · cases hg
    exact op_lt pins s σ H x y v u Q I rx ry ⟨_, _, sIntII r1, sIntII r2, q io H _ Ext.refl rs mBl⟩
  · cases hg
    exact op_lt_str pins s σ H x y v u Q I rx ry ⟨_, _, sStr r1, sStr r2, q io H _ Ext.refl rs mBl⟩
  · cases hg
theorem o_le : OpD X (compareOp .LtE) gLe := by
  intro pins s σ H x y v u Q I rx ry h
  obtain ⟨io, S, a, b, d, S', rs, r1, r2, hg, q⟩ := h
  unfold gLe at hg
  split at hg
  · cases hg
    exact op_le pins s σ H x y v u Q I rx ry ⟨_, _, sIntII r1, sIntII r2, q io H _ Ext.refl rs mBl⟩
  · cases hg
    exact op_le_str pins s σ H x y v u Q I rx ry ⟨_, _, sStr r1, sStr r2, q io H _ Ext.refl rs mBl⟩
  · cases hg
theorem o_gt : OpD X (compareOp .Gt) gGt := by
  intro pins s σ H x y v u Q I rx ry h
  obtain ⟨io, S, a, b, d, S', rs, r1, r2, hg, q⟩ := h
  unfold gGt at hg
  split at hg
  · cases hg
    exact op_gt pins s σ H x y v u Q I rx ry ⟨_, _, sIntII r1, sIntII r2, q io H _ Ext.refl rs mBl⟩
  · cases hg
    exact op_gt_str pins s σ H x y v u Q I rx ry ⟨_, _, sStr r1, sStr r2, q io H _ Ext.refl rs mBl⟩
  · cases hg
theorem o_ge : OpD X (compareOp .GtE) gGe := by
  intro pins s σ H x y v u Q I rx ry h
  obtain ⟨io, S, a, b, d, S', rs, r1, r2, hg, q⟩ := h
  unfold gGe at hg
  split at hg
  · cases hg
    exact op_ge pins s σ H x y v u Q I rx ry ⟨_, _, sIntII r1, sIntII r2, q io H _ Ext.refl rs mBl⟩
  · cases hg
    exact op_ge_str pins s σ H x y v u Q I rx ry ⟨_, _, sStr r1, sStr r2, q io H _ Ext.refl rs mBl⟩
  · cases hg
theorem flat_V {K : PySem.W.Frag} {io : List Addr} {H : Hp} {a : D} {x : V} (r : RV K io H a x) (h : a.flat = true) : flatV x = true := by
  cases a with
  | non => simp only [RV] at r; subst r; rfl
  | bl _ => simp only [RV] at r; subst r; rfl
  | int _ => simp only [RV] at r; subst r; rfl
  | str _ => simp only [RV] at r; subst r; rfl
  | tup _ => cases h
  | ref _ => cases h
theorem eqF_V {K : PySem.W.Frag} {io : List Addr} {H : Hp} {a b : D} {x y : V} (r : RV K io H a x) (q : RV K io H b y) (h : a.flat = true) (h' : b.flat = true) : eqV x y = eqF a b := by
  cases a <;> first | cases h | skip
  all_goals (cases b <;> first | cases h' | skip)
  all_goals (simp only [RV] at r q; subst r; subst q; rfl)
theorem flats_V {K : PySem.W.Frag} {io : List Addr} {H : Hp} : ∀ {ds : List D} {vs : List V}, RVs K io H ds vs → ds.all D.flat = true → vs.all flatV = true
  | [], _, r, _ => by simp only [RVs] at r; subst r; rfl
  | d :: ds, _, r, h => by
    simp only [RVs] at r
    obtain ⟨v, w, rfl, r1, r2⟩ := r
    simp only [List.all_cons, Bool.and_eq_true] at h ⊢
    exact ⟨flat_V r1 h.1, flats_V r2 h.2⟩
theorem inF_V {K : PySem.W.Frag} {io : List Addr} {H : Hp} {a : D} {x : V} (ra : RV K io H a x) (ha : a.flat = true) : ∀ {ds : List D} {vs : List V}, RVs K io H ds vs → ds.all D.flat = true → inV x vs = inF a ds
  | [], _, r, _ => by simp only [RVs] at r; subst r; rfl
  | d :: ds, _, r, h => by
    simp only [RVs] at r
    obtain ⟨v, w, rfl, r1, r2⟩ := r
    simp only [List.all_cons, Bool.and_eq_true] at h
    show (eqV v x || inV x w) = (eqF d a || inF a ds)
    rw [eqF_V r1 ra h.1 ha, inF_V ra ha r2 h.2]
theorem inB_cases {K : PySem.W.Frag} {io : List Addr} {H : Hp} {S : Sto} {a b : D} {x y : V} {r : Bool} (rs : RS K io S H) (r1 : RV K io H a x) (r2 : RV K io H b y) (h : inB a b S = some r) :
    (∃ i j, x = .str i ∧ y = .str j ∧ r = !(Builtin.Str.occurrences j i 0 j.length 1).isEmpty) ∨ ∃ p xs, y = .ref p ∧ (SqL K H p xs ∨ SqT K H p xs) ∧ flatV x = true ∧ xs.all flatV = true ∧ r = inV x xs := by
  unfold inB at h
  split at h
  · cases h
    exact .inl ⟨_, _, sStr r1, sStr r2, rfl⟩
  · split at h
    · rename_i ds hs
      split at h
      · rename_i hc
        cases h
        obtain ⟨p, vs, rfl, e2, e3⟩ := RV.seq rs r2 hs
        exact .inr ⟨p, vs, rfl, e2, flat_V r1 hc.1, flats_V e3 hc.2, (inF_V r1 hc.1 e3 hc.2).symm⟩
      · cases h
    · cases h
theorem o_in : OpD X (compareOp .In) gIn := by
  intro pins s σ H x y v u Q I rx ry h
  obtain ⟨io, S, a, b, d, S', rs, r1, r2, hg, q⟩ := h
  obtain ⟨r, h1, rfl, rfl⟩ := blS_some hg
  rcases inB_cases rs r1 r2 h1 with ⟨i, j, e1, e2, rfl⟩ | ⟨p, xs, e1, e2, e3, e4, rfl⟩
  · exact op_in_str pins s σ H x y v u Q I rx ry ⟨i, j, e1, e2, q io H _ Ext.refl rs mBl⟩
  · exact op_in_seq pins s σ H x y v u Q I rx ry ⟨p, xs, e1, e2, e3, e4, q io H _ Ext.refl rs mBl⟩
theorem o_notin : OpD X (compareOp .NotIn) gNotIn := by
  intro pins s σ H x y v u Q I rx ry h
  obtain ⟨io, S, a, b, d, S', rs, r1, r2, hg, q⟩ := h
  obtain ⟨r, h1, rfl, rfl⟩ := blS_some hg
  obtain ⟨r', h1', rfl⟩ : ∃ r', inB a b S' = some r' ∧ r = !r' := by
    cases he : inB a b S' with
    | none => rw [he] at h1; cases h1
    | some r' => rw [he] at h1; cases h1; exact ⟨r', rfl, rfl⟩
  rcases inB_cases rs r1 r2 h1' with ⟨i, j, e1, e2, rfl⟩ | ⟨p, xs, e1, e2, e3, e4, rfl⟩
  · exact op_notIn_str pins s σ H x y v u Q I rx ry ⟨i, j, e1, e2, q io H _ Ext.refl rs mBl⟩
  · exact op_notIn_seq pins s σ H x y v u Q I rx ry ⟨p, xs, e1, e2, e3, e4, q io H _ Ext.refl rs mBl⟩
theorem RVs.at {K : PySem.W.Frag} {io : List Addr} {H : Hp} {ds : List D} {vs : List V} {i : Int} {d : D} (h : RVs K io H ds vs) (e : atI ds i = some d) : ∃ v, atI vs i = some v ∧ RV K io H d v := by
  unfold atI at e ⊢
  rw [← h.length]
  cases hn : ixN ds.length i with
  | none => rw [hn] at e; cases e
  | some j =>
    rw [hn] at e
    exact h.get e
theorem gIx_cases {K : PySem.W.Frag} {io : List Addr} {H : Hp} {S S' : Sto} {a b d : D} {x y : V} {Q : VK} (rs : RS K io S H) (r1 : RV K io H a x) (r2 : RV K io H b y) (h : gIx a b S = some (d, S')) (q : ∀ io' H' v, Ext K io H io' H' → RS K io' S' H' → RV K io' H' d v → Q v H') : rIx K x y H Q := by
  unfold gIx at h
  split at h
  · split at h
    · rename_i hz
      split at h
      · rename_i c hc
        cases h
        exact .inr (.inr ⟨_, _, c, sStr r1, sIntII r2, hz, hc, q io H _ Ext.refl rs mStr⟩)
      · cases h
    · cases h
  · split at h
    · rename_i ds hs
      split at h
      · rename_i e he
        cases h
        obtain ⟨p, vs, rfl, e2, e3⟩ := RV.seq rs r1 hs
        obtain ⟨w, w1, w2⟩ := e3.at he
        rcases e2 with e2 | e2
        · exact .inl ⟨p, vs, _, w, rfl, sIntII r2, e2, w1, q io H _ Ext.refl rs w2⟩
        · exact .inr (.inl ⟨p, vs, _, w, rfl, sIntII r2, e2, w1, q io H _ Ext.refl rs w2⟩)
      · cases h
    · cases h
  · cases h
theorem i_ix : IxR X (rM X.K gIx) := by
  intro value slice pins s σ H x y v u Q I rx ry h hs
  obtain ⟨io, S, a, b, d, S', rs, r1, r2, hg, q⟩ := h
  exact ix_seq value slice pins s σ H x y v u Q I rx ry (gIx_cases rs r1 r2 hg q) hs
/-- xs[i] read by o[i] op= e -/
def gIxL (a b : D) (S : Sto) : Option (D × Sto) := match a, b with
  | .ref n, .int i => match seqOf (.ref n) S with
    | some ds => match atI ds i with
      | some d => if 0 ≤ i then some (d, S) else none
      | none => none
    | none => none
  | _, _ => none
def gSetL (a b d : D) (S : Sto) : Option Sto := match a, b with
  | .ref n, .int k => match S[n]? with
    | some (.lst ds) => match ixN ds.length k with
      | some j => some (S.set n (.lst (ds.set j d)))
      | none => none
    | _ => none
  | _, _ => none
theorem s_list : SetD X gSetL := by
  intro pins s σ H o i v ov iv u Q I ro ri rv h
  obtain ⟨io, S, a, b, d, S', rs, r1, r2, r3, hg, q⟩ := h
  unfold gSetL at hg
  split at hg
  · split at hg
    · rename_i ds h1
      split at hg
      · rename_i j hj
        cases hg
        obtain ⟨a, vs, rfl, e1, p1, p2⟩ := rs.lst h1 r1
        obtain ⟨rs', ex⟩ := rs.write h1 e1 (RVs.set r3 j p2)
        exact set_list pins s σ H _ _ v ov iv u Q I ro ri rv ⟨a, vs, _, j, rfl, sIntII r2, p1, by rw [← p2.length]; exact hj, q io _ ex rs'⟩
      · cases hg
    · cases hg
  · cases hg
/-! slices -/
def dOpt (f : Option (Ev → Sto → Ans D)) : Ev → Sto → Ans (Option Int) := fun env S => match f with
  | none => some (.ok none, S)
  | some f => bindR (f env S) fun d S1 => match d with
    | .int i => some (.ok (some i), S1)
    | _ => none
def cutD (xs : List D) (lo hi : Option Int) : List D := (xs.drop (HT.sIx xs.length 0 lo)).take (HT.sIx xs.length xs.length hi - HT.sIx xs.length 0 lo)
def gSl (a : D) (lo hi : Option Int) (S : Sto) : Option (D × Sto) := match a with
  | .str z => if z.length ≤ sizeLine then some (.str (cutS z lo hi), S) else none
  | .tup ds => some (.tup (cutD ds lo hi), S)
  | .ref n => match seqOf (.ref n) S with
    | some ds => some (.ref S.length, S ++ [.lst (cutD ds lo hi)])
    | none => none
  | _ => none
def dSl (fa : Ev → Sto → Ans D) (fl fh : Option (Ev → Sto → Ans D)) : Ev → Sto → Ans D := fun env S => bindR (fa env S) fun a S1 => bindR (dOpt fl env S1) fun lo S2 => bindR (dOpt fh env S2) fun hi S3 => okO (gSl a lo hi S3)
end
end DL
namespace DL
open PySem PySem.Spec PyProof.Rows L2 RT RZ
/-! ### slices -/
section
variable {K : PySem.W.Frag} {mg : Str → Option Value} {W : WX} {X : Cx}
theorem cutRV {io : List Addr} {H : Hp} {ds : List D} {vs : List V} (h : RVs K io H ds vs) (lo hi : Option Int) : RVs K io H (cutD ds lo hi) (cutV vs lo hi) := by
  unfold cutD cutV
  rw [h.length]
  exact (h.drop _).take _
def rSlM (K : PySem.W.Frag) (g : D → Option Int → Option Int → Sto → Option (D × Sto)) : V → Option Int → Option Int → Hp → VK → Prop := fun x lo hi H Q =>
  ∃ io S a d S', RS K io S H ∧ RV K io H a x ∧ g a lo hi S = some (d, S') ∧ ∀ io' H' v, Ext K io H io' H' → RS K io' S' H' → RV K io' H' d v → Q v H'
theorem sl_all : SlR X (rSlM X.K gSl) := by
  intro pins s σ H x v vl vu lo hi sl Q I rx hs pl pu h
  obtain ⟨io, S, a, d, S', rs, r1, hg, q⟩ := h
  unfold gSl at hg
  split at hg
  · split at hg
    · rename_i hz
      cases hg
      exact sl_str pins s σ H x v vl vu lo hi sl Q I rx hs pl pu ⟨_, sStr r1, hz, q io H _ Ext.refl rs mStr⟩
    · cases hg
  · rename_i ds
    cases hg
    unfold RV at r1
    obtain ⟨p, vs, rfl, e1, e2⟩ := r1
    refine sl_tupA pins s σ H _ v vl vu lo hi sl Q I rx hs pl pu ⟨p, vs, rfl, e1, fun hw => ?_, fun _ t ht => ?_⟩
    · refine q io H _ Ext.refl rs ?_
      unfold RV
      refine ⟨p, vs, rfl, e1, ?_⟩
      have : cutD ds lo hi = ds := by
        unfold cutD
        rw [e2.length, hw.1, hw.2]
        simp only [List.drop_zero, Nat.sub_zero]
        exact List.take_of_length_le (by rw [e2.length]; exact Nat.le_refl _)
      rw [this]
      exact e2
    · refine q io _ _ (Ext.fresh ht) (rs.tupNew ht) ?_
      unfold RV
      exact ⟨t, _, rfl, SqT.of upd_same, RVs.mono (Ext.fresh ht) _ _ (cutRV e2 lo hi)⟩
  · split at hg
    · rename_i ds h1
      cases hg
      obtain ⟨p, vs, rfl, e1, e2, e3⟩ := rs.seq (seq_ref h1) r1
      exact sl_list pins s σ H _ v vl vu lo hi sl Q I rx hs pl pu ⟨p, vs, rfl, e2, fun t ht => q _ _ _ (Ext.new ht) (rs.lstNew ht (cutRV e3 lo hi)) (mRef rs.lastNew)⟩
    · cases hg
  · cases hg
abbrev rOI : List Addr → Hp → Option Int → Option Int → Prop := fun _ _ a b => a = b
theorem po_weak {e : Option Expr} {t t' : TO} (h : PO X e t) (w : ∀ σ H Q, t' σ H Q → t σ H Q) : PO X e t' := ⟨fun pins s σ H Q I q => h.run pins s σ H Q I (w σ H Q q)⟩
abbrev DO (X : Cx) (W : WX) (e : Option Expr) (f : Option (Ev → Sto → Ans D)) : Prop := PO X e (tG X.K X.mg W rOI (dOpt f))
theorem do_none : DO X W none none := po_weak po_none fun σ H Q ⟨io, S, env, r, S', rs, re, hf, hE⟩ => by
  cases hf
  exact hE.now rs rfl
theorem do_some {e : Expr} {f : Ev → Sto → Ans D} (h : DE X W e f) : DO X W (some e) (some f) := po_weak (po_some h) fun σ H Q ⟨io, S, env, r, S', rs, re, hf, hE⟩ =>
  tG_bind rs re hf hE fun d S1 io1 H1 v e1 rs1 re1 rv1 h1 hE1 => by
    cases d with
    | int i =>
      cases h1
      exact ⟨i, sIntII rv1, hE1.now rs1 rfl⟩
    | _ => cases h1
theorem d_slice {e : Expr} {lo hi : Option Expr} {p2 pos : Pos} {fa : Ev → Sto → Ans D} {fl fh : Option (Ev → Sto → Ans D)} (he : DE X W e fa) (hl : DO X W lo fl) (hu : DO X W hi fh) : DE X W (.Subscript e (.Slice lo hi none p2) pos) (dSl fa fl fh) :=
  pe_weak (pe_slice sl_all he hl hu) fun σ H Q ⟨io, S, env, r, S', rs, re, hf, hE⟩ =>
    tG_bind rs re hf hE fun a S1 io1 H1 v e1 rs1 re1 rv1 h1 hE1 => tG_bind rs1 re1 h1 hE1 fun b S2 io2 H2 w e2 rs2 re2 rv2 h2 hE2 => tG_bind rs2 re2 h2 hE2 fun c S3 io3 H3 u e3 rs3 re3 rv3 h3 hE3 => by
      cases rv2
      cases rv3
      obtain ⟨d, h4, rfl⟩ := okO_some h3
      exact ⟨io3, S3, a, d, S', rs3, RV.mono (e2.trans e3) _ _ rv1, h4, hE3⟩
end
/-! ### calls of built-ins -/
def cInt : List D → Sto → Option (D × Sto)
  | [.int i], S => some (.int i, S)
  | [.bl k], S => some (.int (if k then 1 else 0), S)
  | _, _ => none
def cAbs : List D → Sto → Option (D × Sto)
  | [.int i], S => some (.int (if i < 0 then -i else i), S)
  | _, _ => none
def cMax2 : List D → Sto → Option (D × Sto)
  | [.int i, .int j], S => some (.int (if j > i then j else i), S)
  | _, _ => none
def cLen : List D → Sto → Option (D × Sto)
  | [.str x], S => if x.length ≤ sizeLine then some (.int x.length, S) else none
  | [d], S => match seqOf d S with
    | some ds => some (.int ds.length, S)
    | none => none
  | _, _ => none
def cList : List D → Sto → Option (D × Sto)
  | [d], S => match seqOf d S with
    | some ds => some (.ref S.length, S ++ [.lst ds])
    | none => none
  | _, _ => none
def cTuple : List D → Sto → Option (D × Sto)
  | [d], S => match seqOf d S with
    | some ds => some (.tup ds, S)
    | none => none
  | _, _ => none
def cStr : List D → Sto → Option (D × Sto)
  | [.int i], S => if i.natAbs.log2 < 1920 then some (.str (Str.ofString (toString i)), S) else none
  | [.str x], S => some (.str x, S)
  | _, _ => none
def intsOf : List D → Option (List Int)
  | [] => some []
  | .int i :: ds => match intsOf ds with
    | some is => some (i :: is)
    | none => none
  | _ => none
def strsOf : List D → Option (List Str)
  | [] => some []
  | .str i :: ds => match strsOf ds with
    | some is => some (i :: is)
    | none => none
  | _ => none
def blsOf : List D → Option (List Bool)
  | [] => some []
  | .bl i :: ds => match blsOf ds with
    | some is => some (i :: is)
    | none => none
  | _ => none
def cSum : List D → Sto → Option (D × Sto)
  | [.ref n], S => match seqOf (.ref n) S with
    | some ds => match intsOf ds with
      | some is => some (.int is.sum, S)
      | none => none
    | none => none
  | _, _ => none
/-- texts in order -/
def leS (a b : Str) : Bool := !decide (b.cps.toList < a.cps.toList)
def sortS (xs : List Str) : List Str := xs.mergeSort leS
section
variable {K : PySem.W.Frag} {io : List Addr} {H : Hp}
theorem ints_V : ∀ {ds : List D} {is : List Int} {vs : List V}, intsOf ds = some is → RVs K io H ds vs → vs = is.map V.int
  | [], is, vs, h, r => by simp only [RVs] at r; cases h; rw [r]; rfl
  | .int i :: ds, is, vs, h, r => by
    simp only [RVs] at r
    obtain ⟨v, w, rfl, r1, r2⟩ := r
    unfold intsOf at h
    split at h
    · rename_i js hj
      cases h
      rw [sIntII r1, ints_V hj r2]
      rfl
    · cases h
  | .non :: _, _, _, h, _ => by cases h
  | .bl _ :: _, _, _, h, _ => by cases h
  | .str _ :: _, _, _, h, _ => by cases h
  | .tup _ :: _, _, _, h, _ => by cases h
  | .ref _ :: _, _, _, h, _ => by cases h
theorem rvs1 {d : D} {vs : List V} (h : RVs K io H [d] vs) : ∃ v, vs = [v] ∧ RV K io H d v := by
  simp only [RVs] at h
  obtain ⟨v, r, rfl, h1, rfl⟩ := h
  exact ⟨v, rfl, h1⟩
end
section
variable {X : Cx}
theorem c_int : CallD X (.type "int") cInt := by
  intro pins s σ H xs us Q I r h
  obtain ⟨io, S, ds, d, S', rs, rv, hg, q⟩ := h
  unfold cInt at hg
  split at hg
  · cases hg
    obtain ⟨v, rfl, e⟩ := rvs1 rv
    exact call_int1 pins s σ H _ us Q I r (.inl ⟨_, by rw [sIntII e], q io H _ Ext.refl rs mInt⟩)
  · cases hg
    obtain ⟨v, rfl, e⟩ := rvs1 rv
    exact call_int1 pins s σ H _ us Q I r (.inr ⟨_, by rw [sBl e], q io H _ Ext.refl rs mInt⟩)
  · cases hg
theorem c_abs : CallD X (.builtin "abs") cAbs := by
  intro pins s σ H xs us Q I r h
  obtain ⟨io, S, ds, d, S', rs, rv, hg, q⟩ := h
  unfold cAbs at hg
  split at hg
  · cases hg
    obtain ⟨v, rfl, e⟩ := rvs1 rv
    exact call_abs pins s σ H _ us Q I r ⟨_, by rw [sIntII e], q io H _ Ext.refl rs mInt⟩
  · cases hg
theorem c_max2 (hc : X.calm = true) : CallD X (.builtin "max") cMax2 := by
  intro pins s σ H xs us Q I r h
  obtain ⟨io, S, ds, d, S', rs, rv, hg, q⟩ := h
  unfold cMax2 at hg
  split at hg
  · cases hg
    exact call_max2 hc pins s σ H _ us Q I r ⟨_, _, RVs.int2 rv, q io H _ Ext.refl rs mInt⟩
  · cases hg
theorem c_len : CallD X (.builtin "len") cLen := by
  intro pins s σ H xs us Q I r h
  obtain ⟨io, S, ds, d, S', rs, rv, hg, q⟩ := h
  unfold cLen at hg
  split at hg
  · split at hg
    · rename_i hz
      cases hg
      obtain ⟨v, rfl, e⟩ := rvs1 rv
      exact call_len_str pins s σ H _ us Q I r ⟨_, by rw [sStr e], hz, q io H _ Ext.refl rs mInt⟩
    · cases hg
  · split at hg
    · rename_i es hs
      cases hg
      obtain ⟨v, rfl, e⟩ := rvs1 rv
      obtain ⟨p, vs, rfl, e2, e3⟩ := RV.seq rs e hs
      exact call_len_seq pins s σ H _ us Q I r ⟨p, vs, rfl, e2, by rw [← e3.length]; exact q io H _ Ext.refl rs mInt⟩
    · cases hg
  · cases hg
theorem c_list : CallD X (.type "list") cList := by
  intro pins s σ H xs us Q I r h
  obtain ⟨io, S, ds, d, S', rs, rv, hg, q⟩ := h
  unfold cList at hg
  split at hg
  · split at hg
    · rename_i es hs
      cases hg
      obtain ⟨v, rfl, e⟩ := rvs1 rv
      obtain ⟨p, vs, rfl, e2, e3⟩ := RV.seq rs e hs
      exact call_list_of pins s σ H _ us Q I r ⟨p, vs, rfl, e2, fun t ht => q _ _ _ (Ext.new ht) (rs.lstNew ht e3) (mRef rs.lastNew)⟩
    · cases hg
  · cases hg
theorem c_tuple : CallD X (.type "tuple") cTuple := by
  intro pins s σ H xs us Q I r h
  obtain ⟨io, S, ds, d, S', rs, rv, hg, q⟩ := h
  unfold cTuple at hg
  split at hg
  · split at hg
    · rename_i es hs
      cases hg
      obtain ⟨v, rfl, e⟩ := rvs1 rv
      obtain ⟨p, vs, rfl, e2, e3⟩ := RV.seq rs e hs
      refine call_tuple_of pins s σ H _ us Q I r ⟨p, vs, rfl, ?_⟩
      rcases e2 with e2 | e2
      · refine .inl ⟨e2, fun t ht => q io _ _ (Ext.fresh ht) (rs.tupNew ht) ?_⟩
        unfold RV
        exact ⟨t, _, rfl, SqT.of upd_same, RVs.mono (Ext.fresh ht) _ _ e3⟩
      · refine .inr ⟨e2, q io H _ Ext.refl rs ?_⟩
        unfold RV
        exact ⟨p, vs, rfl, e2, e3⟩
    · cases hg
  · cases hg
theorem c_str : CallD X (.type "str") cStr := by
  intro pins s σ H xs us Q I r h
  obtain ⟨io, S, ds, d, S', rs, rv, hg, q⟩ := h
  unfold cStr at hg
  split at hg
  · split at hg
    · rename_i hz
      cases hg
      obtain ⟨v, rfl, e⟩ := rvs1 rv
      exact call_str_int pins s σ H _ us Q I r ⟨_, by rw [sIntII e], hz, q io H _ Ext.refl rs mStr⟩
    · cases hg
  · cases hg
    obtain ⟨v, rfl, e⟩ := rvs1 rv
    exact SkE.call_str_str pins s σ H _ us Q I r ⟨_, by rw [sStr e], q io H _ Ext.refl rs mStr⟩
  · cases hg
theorem c_sum (hc : X.calm = true) : CallD X (.builtin "sum") cSum := by
  intro pins s σ H xs us Q I r h
  obtain ⟨io, S, ds, d, S', rs, rv, hg, q⟩ := h
  unfold cSum at hg
  split at hg
  · split at hg
    · rename_i es hs
      split at hg
      · rename_i is hi
        cases hg
        obtain ⟨v, rfl, e⟩ := rvs1 rv
        obtain ⟨p, vs, rfl, _, e2, e3⟩ := rs.seq (seq_ref hs) e
        have := ints_V hi e3
        subst this
        exact cr_sum hc pins s σ H _ us Q I r ⟨p, is, rfl, e2, q io H _ Ext.refl rs mInt⟩
      · cases hg
    · cases hg
  · cases hg
/-! isinstance with a built-in type -/
def tyN (d : D) (S : Sto) : Option String := match d with
  | .non => some "NoneType"
  | .bl _ => some "bool"
  | .int _ => some "int"
  | .str _ => some "str"
  | .tup _ => some "tuple"
  | .ref n => match S[n]? with
    | some (.lst _) => some "list"
    | some (.rol _) => some "list"
    | some (.dct _) => some "dict"
    | some (.rot _) => none
    | some (.exn _) => none
    | none => none
def dIsi (T : String) (fa : Ev → Sto → Ans D) : Ev → Sto → Ans D := fun env S => bindR (fa env S) fun a S1 => match tyN a S1 with
  | some n => match kitB n T with
    | some b => some (.ok (.bl b), S1)
    | none => none
  | none => none
theorem ty_X {K : PySem.W.Frag} {io : List Addr} {H : Hp} {S : Sto} {d : D} {v : V} {n : String} (rs : RS K io S H) (r : RV K io H d v) (h : tyN d S = some n) : TyX K H v (.type n) := by
  cases d with
  | non => cases h; rw [sNon r]; exact .base .non
  | bl b => cases h; rw [sBl r]; exact .base (.bl _)
  | int b => cases h; rw [sIntII r]; exact .base (.int _)
  | str b => cases h; rw [sStr r]; exact .base (.str _)
  | tup ds =>
    cases h
    unfold RV at r
    obtain ⟨a, vs, rfl, e, _⟩ := r
    rcases e with (e | ⟨o, e⟩) | ⟨o, its, m, e1, e2, _⟩
    · exact .base (.tup e)
    · exact .fTuple e
    · exact .kTuple e1 e2
  | ref m =>
    unfold RV at r
    obtain ⟨a, e1, rfl⟩ := r
    simp only [tyN] at h
    split at h
    · rename_i ds hd
      cases h
      obtain ⟨vs, q1, _⟩ := rs.obj _ _ _ hd e1
      exact .base (.lst q1)
    · rename_i ds hd
      cases h
      obtain ⟨vs, q1, _⟩ := rs.obj _ _ _ hd e1
      rcases q1 with ⟨o, q1⟩ | ⟨o, its, m, k1, k2, _⟩
      · exact .base (.frz q1)
      · exact .kList k1 k2
    · rename_i es hd
      cases h
      obtain ⟨vs, q1, _⟩ := rs.obj _ _ _ hd e1
      exact .base (.dK q1)
    · cases h
    · cases h
    · cases h
theorem d_isi {W : WX} {e : Expr} {T : String} {TN : Str} {p p2 pos : Pos} {fa : Ev → Sto → Ans D} (hg : Gl X "isinstance") (hm : X.mg "isinstance" = none) (hgT : Gl X TN) (hmT : X.mg TN = none) (hT : bootBuiltins TN = some (.type T)) (he : DE X W e fa)
    (hn : TN ≠ "__name__" := by decide) (hdb : (TN == ("__debug__" : Str)) = false := by decide)
    (hs : starEach [e, .Name TN p2] X.env = (false, eval e X.env) :: starEach [.Name TN p2] X.env := by rfl) (hs2 : starEach [.Name TN p2] X.env = (false, eval (.Name TN p2) X.env) :: starEach [] X.env := by rfl) (hpl : (backTo pos (starEach [.Name TN p2] X.env)).any (·.1) = false := by rfl) :
    DE X W (.Call (.Name "isinstance" p) [e, .Name TN p2] [] pos) (dIsi T fa) :=
  pe_weak (pe_callB call_isi hg hm (by decide +kernel) (pa_cons he (pa_cons (pe_bltn (v := .ty T) hgT hmT hT rfl hn hdb) pa_nil hs2) hs) (by decide) (by decide) hs hpl) fun σ H Q ⟨io, S, env, r, S', rs, re, hf, hE⟩ =>
    tG_bind rs re hf hE fun a S1 io1 H1 v e1 rs1 re1 rv1 h1 hE1 => by
      split at h1
      · rename_i n hn
        split at h1
        · rename_i b hb
          cases h1
          exact ⟨v, .ty T, .type n, .type T, b, rfl, .ty T, ty_X rs1 rv1 hn, kit_ty hb, hE1.now rs1 mBl⟩
        · cases h1
      · cases h1
/-! ### methods of built-in types -/
def tyM (T : String) (d : D) (S : Sto) : Bool := match d with
  | .str _ => T == "str"
  | .int _ => T == "int"
  | .ref n => match S[n]? with
    | some (.dct _) => T == "dict"
    | _ => T == "list" && (seqOf (.ref n) S).isSome
  | _ => false
theorem tyM_V {K : PySem.W.Frag} {io : List Addr} {H : Hp} {S : Sto} {d : D} {v : V} {T : String} (rs : RS K io S H) (r : RV K io H d v) (h : tyM T d S = true) : tyV K T v H := by
  cases d with
  | str x => rw [sStr r]; exact beq_iff_eq.mp h
  | int x => rw [sIntII r]; exact beq_iff_eq.mp h
  | ref n =>
    unfold tyM at h
    simp only at h
    split at h
    · rename_i es hn
      obtain ⟨p, kvs, rfl, e0, e1, e2, e3⟩ := rs.dct hn r
      exact .inr (.inr (.inl ⟨beq_iff_eq.mp h, .inl ⟨kvs, e1⟩⟩))
    · simp only [Bool.and_eq_true] at h
      obtain ⟨h1, h2⟩ := h
      obtain ⟨ds, hs⟩ := Option.isSome_iff_exists.mp h2
      obtain ⟨a, vs, rfl, _, e2, _⟩ := rs.seq (seq_ref hs) r
      exact .inl ⟨beq_iff_eq.mp h1, vs, e2⟩
  | _ => cases h
def dM (T : String) (g : D → List D → Sto → Option (D × Sto)) (fo : Ev → Sto → Ans D) (fs : Ev → Sto → Ans (List D)) : Ev → Sto → Ans D := fun env S =>
  bindR (fo env S) fun a S1 => if tyM T a S1 = true then bindR (fs env S1) fun ds S2 => okO (g a ds S2) else none
section
variable {o e : Expr} {es : List Expr} {name : Str} {apos cpos : Pos} {T id : String} {W : WX} {fo : Ev → Sto → Ans D} {fs : Ev → Sto → Ans (List D)} {g : D → List D → Sto → Option (D × Sto)}
theorem d_m (pa : PlainAttrs T) (slot : Slot T name id) (hty : typeOf (.builtin id) = pure (.type "method_descriptor")) (hm : MtD X id g) (ho : DE X W o fo) (ha : DA X W (e :: es) fs)
    (hbase : attributeBase o name X.env (eval o X.env) = eval o X.env := by rfl)
    (hfew : ((backTo cpos (starEach (e :: es) X.env)).all (fun x => !x.1) && (backToKw cpos (keywordEach [] X.env)).all (fun x => x.1.isSome)
      && decide ((e :: es).length + ([] : List Keyword).length + (if ([] : List Keyword).isEmpty then 0 else 1) < 30)) = true := by rfl)
    (hline : (apos.endLine == cpos.line) = true := by rfl) (hs : starEach (e :: es) X.env = (false, eval e X.env) :: starEach es X.env := by rfl) (hplain : (backTo cpos (starEach es X.env)).any (·.1) = false := by rfl) :
    DE X W (.Call (.Attribute o name apos) (e :: es) [] cpos) (dM T g fo fs) :=
  pe_weak (pe_bm pa slot hty hm ho ha hbase hfew hline hs hplain) fun σ H Q ⟨io, S, env, r, S', rs, re, hf, hE⟩ => tG_bind rs re hf hE fun a S1 io1 H1 v e1 rs1 re1 rv1 h1 hE1 => by
    split at h1
    · rename_i ht
      refine ⟨tyM_V rs1 rv1 ht, tG_bind rs1 re1 h1 hE1 fun ds S2 io2 H2 w e2 rs2 re2 rv2 h2 hE2 => ?_⟩
      obtain ⟨d, h2, rfl⟩ := okO_some h2
      exact ⟨io2, S2, a, ds, d, S', rs2, RV.mono e2 _ _ rv1, rv2, by assumption, hE2⟩
    · cases h1
end
def mAppend : D → List D → Sto → Option (D × Sto)
  | .ref n, [d], S => match S[n]? with
    | some (.lst ds) => if ds.length < sizeLine then some (.non, S.set n (.lst (ds ++ [d]))) else none
    | _ => none
  | _, _, _ => none
theorem m_append : MtD X "list.append" mAppend := by
  intro pins s σ H x xs v us Q I rx r h
  obtain ⟨io, S, a, ds, d, S', rs, r1, r2, hg, q⟩ := h
  unfold mAppend at hg
  split at hg
  · split at hg
    · rename_i es hs
      split at hg
      · rename_i hz
        cases hg
        obtain ⟨p, vs, rfl, e1, e2, e3⟩ := rs.lst hs r1
        obtain ⟨w, rfl, r3⟩ := rvs1 r2
        obtain ⟨rs', ex⟩ := rs.write hs e1 (e3.append (RVs.one r3))
        exact mt_append pins s σ H _ _ v us Q I rx r ⟨p, vs, w, rfl, rfl, e2, by rw [← e3.length]; exact hz, q io _ _ ex rs' mNon⟩
      · cases hg
    · cases hg
  · cases hg
def mPop : D → List D → Sto → Option (D × Sto)
  | .ref n, [], S => match S[n]? with
    | some (.lst ds) => match ds[ds.length - 1]? with
      | some d => some (d, S.set n (.lst ds.dropLast))
      | none => none
    | _ => none
  | _, _, _ => none
theorem RVs.dropLast {K : PySem.W.Frag} {io : List Addr} {H : Hp} {ds : List D} {vs : List V} (h : RVs K io H ds vs) : RVs K io H ds.dropLast vs.dropLast := by
  rw [List.dropLast_eq_take, List.dropLast_eq_take, h.length]
  exact h.take _
end
end DL
namespace DL
open PySem PySem.Spec PyProof.Rows L2 RT RZ
/-- the law's own promise -/
def spLaw (K : PySem.W.Frag) : Sp := fun vs H Q _ => ∃ (a : Addr) (ns : List Int), vs = [.ref a] ∧ ns.length ≤ 63 ∧ Only H ∧ SqL K H a (ns.map V.int) ∧ ∀ H', Q (.bl true) H'
theorem intsRV {K : PySem.W.Frag} {io : List Addr} {H : Hp} : ∀ (ns : List Int), RVs K io H (ns.map D.int) (ns.map V.int)
  | [] => RVs.nil
  | n :: ns => RVs.cons mInt (intsRV ns)
theorem spM_law {K : PySem.W.Frag} {mg : Str → Option Value} {m : Mir} {a : Addr} {ns : List Int} {S' : Sto} {H : Hp} {Q : VK} {E : XK} (hm : m [.ref 0] [.rol (ns.map D.int)] = some (.ok (.bl true), S')) (ho : Only H) (hS : SqL K H a (ns.map V.int)) (q : ∀ H', Q (.bl true) H') : spM K mg m [.ref a] H Q E := by
  have hr : ROL K H a (ns.map V.int) := by
    rcases hS with (hS | hS) | hS
    · rcases ho a with z | ⟨o, xs, z⟩
      · rw [z] at hS; cases hS
      · rw [z] at hS; cases hS
    · exact .inl hS
    · exact .inr hS
  refine ⟨[a], [.rol (ns.map D.int)], [.ref 0], _, S', ⟨rfl, fun n o b e1 e2 => ?_, fun m n b o u e1 e2 e3 e4 m1 m2 => ?_⟩, RVs.one (by unfold RV; exact ⟨a, rfl, rfl⟩), hm, fun io' H' v _ _ rv => ?_⟩
  · match n with
    | 0 =>
      cases e1
      cases e2
      exact ⟨_, hr, intsRV ns⟩
    | n + 1 => simp at e1
  · match m with
    | 0 =>
      cases e3
      cases m1
    | m + 1 => simp at e3
  · rw [sBl rv]
    exact q H'
theorem spLaw_imp {K : PySem.W.Frag} {mg : Str → Option Value} {m : Mir} (h : ∀ ns : List Int, ns.length ≤ 63 → ∃ S', m [.ref 0] [.rol (ns.map D.int)] = some (.ok (.bl true), S')) (vs : List V) (H : Hp) (Q : VK) (E : XK) (q : spLaw K vs H Q E) : spM K mg m vs H Q E := by
  obtain ⟨a, ns, rfl, hl, ho, hS, q⟩ := q
  obtain ⟨S', hm⟩ := h ns hl
  exact spM_law hm ho hS q
/-- a def that can be called, and what it does -/
structure Cal (P : Program) (w : World) (K : PySem.W.Frag) (mg : Str → Option Value) (base : Heap) (x : Str) (k : Nat) (ps : List Str) (m : Mir) : Prop where
  ex : ∃ (a : Addr) (fd : FuncData), FnOk P w K mg base (L2N.CX P w) k a fd ps (spM K mg m) ∧ mg x = some (.ref a) ∧ PySem.W.keepIn K (.ref a) = true ∧ Binds K fd ps []
theorem cal_mk {P : Program} {w : World} {K : PySem.W.Frag} {mg : Str → Option Value} {base : Heap} {x q : Str} {st : Stmt} {a : Addr} {fd : FuncData} {k : Nat} {ps : List Str} {m : Mir} (F : Fun K x q st a fd) (g : mg x = some (.ref a)) (h : FnOk P w K mg base (L2N.CX P w) k a fd ps (spM K mg m)) (b : Binds K fd ps []) : Cal P w K mg base x k ps m := ⟨a, fd, h, g, F.kp, b⟩
section
variable {X : Cx} {W : WX} {ps : List Str} {k : Nat} {m : Mir} {x : Str} {p pos : Pos} {e : Expr} {es : List Expr} {fs : Ev → Sto → Ans (List D)}
theorem d_cal (C : Cal X.prog X.w X.K X.mg X.base x k ps m) (hr : Room k X.A) (hg : Gl X x) (hx : ∀ σ, PassesAt (L2N.CX X.prog X.w) X σ (WE W σ)) (ha : DA X W (e :: es) fs) (hdb : (x == ("__debug__" : Str)) = false := by decide) (he : starEach (e :: es) X.env = (false, eval e X.env) :: starEach es X.env := by rfl) (hpl : (backTo pos (starEach es X.env)).any (·.1) = false := by rfl) :
    DE X W (.Call (.Name x p) (e :: es) [] pos) (dCall m fs) := by
  obtain ⟨a, fd, F, g, kp, b⟩ := C.ex
  exact d_call F hr hg g kp b hx ha hdb he hpl
end
theorem passX {P : Program} {w : World} {K : PySem.W.Frag} {mg : Str → Option Value} {base : Heap} {N : List Str} {qual : Str} {scope : Scope} {f : Addr} {cd : Value} {A : Around} {outer : List Env} {s : Shared} {H : Hp} {E : XK} :
    ∀ σ, PassesAt (L2N.CX P w) (cxOf (L2N.CX P w) P w K mg base N qual scope f cd A outer s H E) σ (WE (XW E) σ) := fun σ => L2N.passAt (L2N.takes_of rfl rfl rfl rfl) σ
theorem cxF {P : Program} {w : World} {o : List Env} {H : Hp} {s : Shared} {e : Value} {s' : Shared} (h : L2N.CX P w o H s (fun _ _ _ => False) e s') : False := by
  obtain ⟨_, _, _, _, _, _, _, _, _, _, _, _, z⟩ := h
  exact z
/-! an item of a list for o[i] op= e -/
end DL
namespace DL
open PySem PySem.Spec PyProof.Rows L2 RT RZ
/-! ### enumerate of a tuple -/
section
open AutoSeq1 (wpAny_loadPart')
theorem meets_enumerate_newT (l : Addr) (items : Array Value) (n : Nat) (dct : Option Addr) (sl : Array (Option Value)) :
    Meets (Builtin.«enumerate.__new__» ⟨[.type "enumerate", .ref l], []⟩) (fun _ R s => s.heap.get? l = some { cls := .type "tuple", dict := dct, data := .seq items n, slots := sl } ∧
      R (.ok (.ret (.ref (s.heap.push { cls := .type "tuple_iterator", data := .fields #[.ref l, .int 0 0] }).objs.size)))
        { s with heap := (s.heap.push { cls := .type "tuple_iterator", data := .fields #[.ref l, .int 0 0] }).push { cls := .type "enumerate", data := .fields #[.none, .bool false, .ref s.heap.objs.size, rawInt 0, .none, .none] } }) :=
  .of_wp fun prog w A R s h => by
    obtain ⟨hp, g, d, tk, os⟩ := s; obtain ⟨hl, h⟩ := h
    have hsub := sub_enumerate
    have hL : Heap.IsTuple (Shared.heap ⟨hp, g, d, tk, os⟩) l items := ⟨_, hl, rfl, n, rfl⟩
    wp_walk using wpAny_loadPart' hl
    refine wpAny_stack_any fun st => wpAny_pure ?_
    split
    · rename_i c _ _ _ _ _
      cases (c == Value.type "enumerate")
      · wp_walk using wpAny_loadPart' hl, wpAny_pyIter_tuple hL
        exact ⟨_, rfl, h⟩
      · wp_walk using wpAny_loadPart' hl, wpAny_pyIter_tuple hL
        exact ⟨_, rfl, h⟩
    · wp_walk using wpAny_loadPart' hl, wpAny_pyIter_tuple hL
      exact ⟨_, rfl, h⟩
section
variable {prog : Program} {w : World} {A : Around} {E : Value → Shared → Prop} {s : Shared}
theorem call_enumerate_tuple {l : Addr} {items : Array Value} {Q : Value → Shared → Prop} (hL : s.heap.IsTuple l items)
    (h : ∀ h', IsEnum h' (s.heap.objs.size + 1) s.heap.objs.size 0 .none → h'.IsTupleIter s.heap.objs.size l 0 → h'.objs.size = s.heap.objs.size + 2 →
      (∀ b o, s.heap.get? b = some o → h'.get? b = some o) → Q (.ref (s.heap.objs.size + 1)) { s with heap := h' }) :
    wpAny (model prog w) A (call (.type "enumerate") [.ref l]) Q E s := by
  obtain ⟨⟨c, dct, dt, sl⟩, hl, hc, n, hd⟩ := hL
  replace hc : c = .type "tuple" := hc
  replace hd : dt = .seq items n := hd
  subst hc hd
  refine callType_new F.called_enumerate (by decide) (F.typeCall_enumerate_1 _) (F.newCall_enumerate_1 _) (fun obj => F.args_object_init_2 obj _) F.entry_enumerate_new
    (meets_enumerate_newT l items n dct sl) ⟨hl, ?_⟩
  have hz : (s.heap.push { cls := .type "tuple_iterator", data := .fields #[.ref l, .int 0 0] }).objs.size = s.heap.objs.size + 1 := Heap.size_push ..
  show _ ∧ _
  rw [hz]
  have he : IsEnum ((s.heap.push { cls := .type "tuple_iterator", data := .fields #[.ref l, .int 0 0] }).push
      { cls := .type "enumerate", data := .fields #[.none, .bool false, .ref s.heap.objs.size, rawInt 0, .none, .none] }) (s.heap.objs.size + 1) s.heap.objs.size 0 .none := by
    have := Heap.get?_push_size (s.heap.push { cls := .type "tuple_iterator", data := .fields #[.ref l, .int 0 0] })
      (o := { cls := .type "enumerate", data := .fields #[.none, .bool false, .ref s.heap.objs.size, rawInt 0, .none, .none] }) rfl
    rw [hz] at this; exact this
  refine ⟨⟨_, he, rfl⟩, h _ he ⟨_, Heap.get?_push_of_some _ (Heap.get?_push_size _ rfl), rfl, rfl⟩ (by rw [Heap.size_push, hz]) fun b o x => Heap.get?_push_of_some _ (Heap.get?_push_of_some _ x)⟩
end
end
/-- the tuple at a, each item in a new pair -/
def IteT (K : PySem.W.Frag) (a : Addr) : It :=
  ⟨fun i H => ∃ (xs : List V) (x : V), SqT K H a xs ∧ xs[i]? = some x, fun i H v H' => ∃ T x, v = .ref T ∧ H T = none ∧ H' = upd H T (.tup [.int (i : Nat), x]) ∧ ∀ xs, SqT K H a xs → xs[i]? = some x, fun i H => ∃ xs : List V, SqT K H a xs ∧ xs.length ≤ i⟩
theorem turn_enumT {P : Program} {w : World} {K : PySem.W.Frag} {elts : List Expr} {kk : Nat} {tpos : Pos} (a e it : Addr) :
    Turn P w K (.Tuple elts kk tpos) (IteT K a) [e, it] e (fun i h => (∃ old, IsEnum h e it ((i : Nat) : Int) old) ∧ h.IsTupleIter it a i ∧ e ≠ it) where
  mem := by simp
  obj := fun i h st b hb => by
    obtain ⟨⟨old, he⟩, ⟨o, ho, hc, hd⟩, _⟩ := st
    have e' : b = e ∨ b = it := by simpa using hb
    rcases e' with z | z
    · rw [z]; exact ⟨_, he, fun v q => nomatch q⟩
    · rw [z]; exact ⟨o, ho, fun v q => by rw [hd] at q; cases q⟩
  keep := fun i h h' st k => let ⟨⟨old, he⟩, hi, hne⟩ := st; ⟨⟨old, k e (by simp) _ he⟩, hi.at fun o q => k it (by simp) o q, hne⟩
  item := by
    intro X hP hw hK hc i pins s σ H E I hf st hg
    subst hP hw hK
    obtain ⟨⟨old, he⟩, hit, hne⟩ := st
    obtain ⟨xs, x, hq, hx⟩ := hg
    obtain ⟨its, rv, p, hz⟩ := I.tuple hq
    obtain ⟨u, hu, ru⟩ := rv.get hx
    have hel : e < s.heap.objs.size := Heap.lt_size he
    have hil : it < s.heap.objs.size := by obtain ⟨_, q, _⟩ := hit; exact Heap.lt_size q
    have nai : a ≠ it := fun z => by
      obtain ⟨o1, h1, c1, _⟩ := hit
      obtain ⟨o2, h2, c2, _⟩ := p
      rw [z, h1] at h2
      cases h2
      rw [c1] at c2
      exact absurd c2 (by decide)
    have nea : e ≠ a := fun z => by
      obtain ⟨o2, h2, c2, _⟩ := p
      rw [← z, he] at h2
      cases h2
      have c3 : Value.type "enumerate" = Value.type "tuple" := c2
      exact absurd c3 (by decide)
    have D : Draws X.prog X.w X.A.in1 it [it, a] its.toArray.size (fun i v => its.toArray[i]? = some v) (fun i h => h.IsTupleIter it a i ∧ h.IsTuple a its.toArray) := Draws.tuple (A := X.A.in1) (I.ok.hd hc) it a nai its.toArray
    have hu' : its.toArray[i]? = some u := by simpa using hu
    refine wpAny_pyNext_enum_itemD D he ⟨hit, p⟩ (Array.getElem?_eq_some_iff.mp hu').1 hne (by simp [hne, nea]) fun u' h' tk hu2 ho hit' hT hsz hk => ?_
    rw [hu'] at hu2
    cases hu2
    refine ⟨_, rfl, wpAny_letOwnedTupleGo_enum (s := { s with heap := h', toks := tk + 1 }) ho fun h'' he' sb => ?_⟩
    have hT2 : h''.get? s.heap.objs.size = some { cls := .type "tuple", data := .seq #[.int i tk, u] } := (sb.2 _ (Nat.ne_of_gt hel)).trans hT
    have new : ObjOk X.prog X.w (upd H s.heap.objs.size (.tup [.int (i : Nat), x])) h'' s.heap.objs.size (.tup [.int (i : Nat), x]) :=
      ⟨by show 2 ≤ sizeLine; decide, [.int i tk, u], .cons ⟨_, rfl⟩ (.cons ru .nil), ⟨_, hT2, rfl, _, rfl⟩⟩
    have I1 : Inv X pins σ (upd H s.heap.objs.size (.tup [.int (i : Nat), x])) { s with heap := h'', toks := tk + 1 } :=
      I.turnedNew (ch := [e, it]) (fun b ob hb q => (sb.2 b (fun z => hb (by simp [z]))).trans (hk b ob (fun z => hb (by simp [z])) (fun z => hb (by simp [z])) q)) hf (Nat.le_refl _) new
    refine ⟨.ref s.heap.objs.size, _, I1, rfl, ⟨_, x, rfl, I.hok.fresh (Nat.le_refl _), rfl, fun ys hy => by rw [I.tuple_inj hy hq]; exact hx⟩, ⟨⟨u, ?_⟩, hit'.1.at fun o q => (sb.2 it (Ne.symm hne)).trans q, hne⟩, fun b hb => ?_⟩
    · have e1 : ((i + 1 : Nat) : Int) = (i : Int) + 1 := by omega
      rw [e1]; exact he'
    · have hb' : b < s.heap.objs.size := by
        have e' : b = e ∨ b = it := by simpa using hb
        rcases e' with z | z
        · rw [z]; exact hel
        · rw [z]; exact hil
      rw [upd_ne (Nat.ne_of_lt hb')]
      exact (hf b hb).1
  done := by
    intro X hP hw hK hc i pins s σ H E I hf st hg
    subst hP hw hK
    obtain ⟨⟨old, he⟩, hit, hne⟩ := st
    obtain ⟨xs, hq, hx⟩ := hg
    obtain ⟨its, rv, p, hz⟩ := I.tuple hq
    obtain ⟨f0, f1, f2, f3, f4, f5⟩ := hf it (by simp)
    have hl := rv.length
    have nai : a ≠ it := fun z => by
      obtain ⟨o1, h1, c1, _⟩ := hit
      obtain ⟨o2, h2, c2, _⟩ := p
      rw [z, h1] at h2
      cases h2
      rw [c1] at c2
      exact absurd c2 (by decide)
    have hend : its.toArray[i]? = none := by simp; omega
    have hT : s.TypeIs (.ref e) "enumerate" := ⟨_, he, rfl⟩
    unfold pyNext
    refine wpAny_bind (wpAny_attempt (wpAny_callSpecial?_slot (name := Str.ofString "__next__") hT F.slot_enumerate_next
      (wpAny_call_entry F.slot_enumerate_next hT F.entry_enumerate_next ?_ (F.args_enumerate_next_1 _))))
    show wpAny _ _ (field (.ref e) 2 >>= _) _ _ _
    refine wpAny_bind (wpAny_field he rfl (x := .ref it) rfl ?_)
    refine wpAny_bind (wpAny_nextOf_tuple_end (I.ok.hd hc) hit p hend fun h' x eb hx' => ?_)
    obtain ⟨o, ho, hc⟩ := hx'
    refine wpAny_bind (wpAny_isInstance (T := "StopIteration") (b := true) ⟨o, ho, hc⟩ isSubtype_stop ?_)
    exact wpAny_pure ⟨rfl, I.turned (t' := s.toks) (fun b o hb q => eb b o hb q) f0 f1 f3 f4 f5⟩
  self := fun A i s Q E st h => let ⟨⟨_, he⟩, _⟩ := st; wpAny_pyIter_enum he h
def iEnumT (K : PySem.W.Frag) (ta : TA) : TI := fun σ H R => ta σ H fun vs H1 => ∃ a xs, vs = [.ref a] ∧ SqT K H1 a xs ∧ R (IteT K a) H1
theorem pi_enumT {X : Cx} {e : Expr} {ta : TA} {p pos tpos : Pos} {elts : List Expr} {kk : Nat} (hg : Gl X "enumerate") (hm : X.mg "enumerate" = none) (ha : PA X [e] ta) (hs : starEach [e] X.env = [(false, eval e X.env)] := by rfl) :
    PI X (.Tuple elts kk tpos) (.Call (.Name "enumerate" p) [e] [] pos) (iEnumT X.K ta) := by
  refine ⟨fun pins s σ H R I h => ?_⟩
  refine Call_ (ld_blt I hg hm boot_enumerate (PyProof.Rows.callWith_type1 (thn (ha.run pos pins s σ H _ I h) fun us s1 ⟨vs, H1, I1, r1, q1⟩ => ?_) hs rfl))
  obtain ⟨a, xs, ex, hq, q⟩ := q1
  subst ex
  cases r1 with
  | cons r rr =>
    cases rr
    cases r
    obtain ⟨its, rv, p', hz⟩ := I1.tuple hq
    refine call_enumerate_tuple p' fun h' he hit hsz hk => wpAny_pyIter_enum he ?_
    have I2 : Inv X pins σ H1 { s1 with heap := h' } := I1.kept (t' := s1.toks) hk
    refine ⟨s1.heap.objs.size + 1, [s1.heap.objs.size + 1, s1.heap.objs.size], _, _, H1, rfl, I2, turn_enumT a (s1.heap.objs.size + 1) s1.heap.objs.size, ⟨⟨.none, he⟩, hit, Nat.succ_ne_self _⟩, fun b hb => ?_, q⟩
    have e' : b = s1.heap.objs.size + 1 ∨ b = s1.heap.objs.size := by simpa using hb
    have hle : s1.heap.objs.size ≤ b := by
      rcases e' with z | z
      · rw [z]; exact Nat.le_add_right _ _
      · rw [z]; exact Nat.le_refl _
    exact I1.fpOk hle (I1.hok.fresh hle)
theorem ItOk.enumT {K : PySem.W.Frag} {io : List Addr} {H : Hp} {a : Addr} {vs : List V} {ds : List D} (ok : Sto → Prop) (ha : SqT K H a vs) (hd : RVs K io H ds vs) : ItOk K io H ⟨ok, enumD ds⟩ (IteT K a) := fun i io' S' H' ex rs _ => by
  have e3 := ex.tup a vs ha
  have e4 := RVs.mono ex ds vs hd
  refine ⟨fun hi => ⟨vs, e3, by rw [← e4.length]; simpa [enumD] using hi⟩, fun x hx => ?_⟩
  have hx0 : (enumD ds)[i]? = some x := hx
  unfold enumD at hx0
  rw [List.getElem?_map, List.getElem?_zipIdx] at hx0
  cases hd : ds[i]? with
  | none => rw [hd] at hx0; cases hx0
  | some d =>
    rw [hd] at hx0
    cases hx0
    obtain ⟨v, h1, h2⟩ := e4.get hd
    refine ⟨⟨vs, v, e3, h1⟩, fun w H2 hy => ?_⟩
    obtain ⟨T, x, rfl, hT, rfl, hy⟩ := hy
    have := hy vs e3
    rw [h1] at this
    cases this
    refine ⟨io', Ext.fresh hT, rs.tupNew hT, ?_⟩
    have := tup2 (K := K) (a := .int ((i : Nat) : Int)) (x := .int ((i : Nat) : Int)) hT (by simp [RV]) h2
    simpa using this
def wEnumA (fs : Ev → Sto → Ans (List D)) : Ev → Sto → Ans Wk := fun env S => bindR (fs env S) fun ds S1 => match ds with
  | [d] => match seqOf d S1 with
    | some xs => some (.ok ⟨fun S => seqOf d S = some xs, enumD xs⟩, S1)
    | none => none
  | _ => none
section
variable {X : Cx} {W : WX} {e : Expr} {fs : Ev → Sto → Ans (List D)} {p pos tpos : Pos} {elts : List Expr} {kk : Nat}
/-- a list or a tuple -/
theorem di_enumA (hg : Gl X "enumerate") (hm : X.mg "enumerate" = none) (ha : DA X W [e] fs) (hf1 : ∀ env S ds S', fs env S = some (.ok ds, S') → ds.length = 1) (hs : starEach [e] X.env = [(false, eval e X.env)] := by rfl) : DI X W (.Tuple elts kk tpos) (.Call (.Name "enumerate" p) [e] [] pos) (wEnumA fs) :=
  pi_weak (pi_or (pi_enum hg hm ha hs) (pi_enumT hg hm ha hs)) fun σ H R ⟨io, S, env, r, S', rs, re, hf, hE⟩ => by
    unfold wEnumA at hf
    cases hd : fs env S with
    | none => rw [hd] at hf; cases hf
    | some q =>
      obtain ⟨ra, S1⟩ := q
      cases ra with
      | ex x =>
        rw [hd] at hf
        cases hf
        exact .inl ⟨io, S, env, _, _, rs, re, hd, hE⟩
      | ok ds =>
        obtain ⟨d, rfl⟩ := one_of (hf1 _ _ _ _ hd)
        by_cases ht : isTup d = true
        · refine .inr (tG_bind2 rs re hf hE fun d' S1' io1 H1 v hd' e1 rs1 re1 rv1 h1 hE1 => ?_)
          rw [hd] at hd'
          cases hd'
          obtain ⟨v, rfl, rv2⟩ := rvs1 rv1
          cases d with
          | tup ds =>
            unfold RV at rv2
            obtain ⟨a, vs, rfl, e2, e3⟩ := rv2
            cases h1
            exact ⟨a, vs, rfl, e2, hE1.now rs1 (ItOk.enumT _ e2 e3)⟩
          | _ => cases ht
        · refine .inl (tG_bind2 rs re hf hE fun d' S1' io1 H1 v hd' e1 rs1 re1 rv1 h1 hE1 => ?_)
          rw [hd] at hd'
          cases hd'
          obtain ⟨v, rfl, rv2⟩ := rvs1 rv1
          cases d with
          | ref n =>
            cases hs : seqOf (.ref n) S1 with
            | none => simp only [hs] at h1; cases h1
            | some xs =>
              simp only [hs] at h1
              cases h1
              obtain ⟨a, vs, rfl, e2, e3, e4⟩ := rs1.seq (seq_ref hs) rv2
              exact ⟨a, vs, rfl, e3, hE1.now rs1 (ItOk.enum e2)⟩
          | tup _ => exact absurd rfl ht
          | _ => cases h1
end
/-! recursion: a chain of computations -/
end DL
namespace DL
open PySem PySem.Spec PyProof.Rows L2 RT RZ
/-! ### defaults and keywords -/
abbrev DK (X : Cx) (W : WX) (ks : List Keyword) (f : Ev → Sto → Ans (List D)) : Prop := PK X ks (tMA X.K X.mg W f)
theorem pk_weak {X : Cx} {ks : List Keyword} {t t' : TA} (h : PK X ks t) (w : ∀ σ H Q, t' σ H Q → t σ H Q) : PK X ks t' := ⟨fun pos pins s σ H Q I q => h.run pos pins s σ H Q I (w σ H Q q)⟩
section
variable {X : Cx} {W : WX} {e : Expr} {es : List Expr} {fa : Ev → Sto → Ans D} {fs fk : Ev → Sto → Ans (List D)} {ks : List Keyword} {nm : Option Str} {kpos : Pos}
theorem dk_nil : DK X W [] dNil := pk_weak pk_nil fun σ H Q ⟨io, S, env, r, S', rs, re, hf, hE⟩ => by
  cases hf
  exact hE.now rs RVs.nil
theorem dk_cons (ha : DE X W e fa) (hr : DK X W ks fk) : DK X W (⟨nm, e, kpos⟩ :: ks) (dCons fa fk) :=
  pk_weak (pk_cons ha hr) fun σ H Q ⟨io, S, env, r, S', rs, re, hf, hE⟩ =>
    tG_bind rs re hf hE fun x S1 io1 H1 v e1 rs1 re1 rv1 h1 hE1 => tG_bind rs1 re1 h1 hE1 fun y S2 io2 H2 w e2 rs2 re2 rv2 h2 hE2 => by
      cases h2
      exact hE2.now rs2 (RVs.cons (RV.mono e2 x v rv1) rv2)
end
theorem RVs.app {K : PySem.W.Frag} {io : List Addr} {H : Hp} : ∀ {ds es : List D} {vs us : List V}, RVs K io H ds vs → RVs K io H es us → RVs K io H (ds ++ es) (vs ++ us)
  | [], _, vs, _, h, g => by
    have := h.length
    simp at this
    rw [List.eq_nil_of_length_eq_zero this.symm]
    exact g
  | d :: ds, _, vs, _, h, g => by
    unfold RVs at h
    obtain ⟨v, r, rfl, h1, h2⟩ := h
    exact RVs.cons h1 (RVs.app h2 g)
section
variable {CX' : CXT} {X : Cx} {E : L2.St → XK} {k n : Nat} {f : Addr} {fd : FuncData} {ps ks : List Str} {sp : Sp} {x : Str} {p pos : Pos} {e : Expr} {es : List Expr} {kws : List Keyword} {t tk : TA} {g : List Value → List Value → List Value} {gV : List V → List V → List V}
def tCallNA (n m : Nat) (sp : Sp) (gV : List V → List V → List V) (E : L2.St → XK) (t tk : TA) : TE := fun σ H Q => t σ H fun vs H1 => tk σ H1 fun zs H2 => vs.length = n ∧ zs.length = m ∧ sp (gV vs zs) H2 Q (E σ)
theorem pe_callNA (F : FnOk X.prog X.w X.K X.mg X.base CX' k f fd ps sp) (hr : Room k X.A) (hg : Gl X x) (hm : X.mg x = some (.ref f)) (hk : PySem.W.keepIn X.K (.ref f) = true) (hb : KBn X.K fd ps n ks g gV) (hx : ∀ σ, PassesAt CX' X σ (E σ))
    (ha : PA X (e :: es) t) (hkw : PK X kws tk) (hall : (backToKw pos (keywordEach kws X.env)).all (·.1.isSome) = true := by rfl) (hks : (backToKw pos (keywordEach kws X.env)).filterMap (·.1) = ks := by rfl)
    (hdb : (x == ("__debug__" : Str)) = false := by decide) (he : starEach (e :: es) X.env = (false, eval e X.env) :: starEach es X.env := by rfl) (hpl : ((backTo pos (starEach (e :: es) X.env)).any (·.1) || (backToKw pos (keywordEach kws X.env)).any (·.1.isNone)) = false := by rfl) :
    PE X (.Call (.Name x p) (e :: es) kws pos) (tCallNA n ks.length sp gV E t tk) := ⟨fun pins s σ H Q I q => by
  refine wpAny_Call_Name_kw (ld_glob I hg hm ?_ hdb)
  refine PySem.W.callWith_KW (h₀ := X.base) I.ok.mod.kin hk hall (thn (ha.run pos pins s σ H _ I q) fun us t1 ⟨vs, H1, J, r, w⟩ => ?_) hpl he
  refine thn (hkw.run pos pins t1 σ H1 _ J w) fun ws t2 ⟨zs, H2, J2, rz, l1, l2, w2⟩ => ⟨J2.kIn, ?_⟩
  rw [hks]
  exact call_ends (hx σ) J2 (F.run X.A X.stack t2 H2 _ _ _ Q (E σ) hr J2.env0 (hb.to t2 us ws J2.kIn (r.length.symm.trans l1) (rz.length.symm.trans l2)) (hb.rel r rz) w2)⟩
end
/-- a def called with its last parameters by default -/
structure CalD (P : Program) (w : World) (K : PySem.W.Frag) (mg : Str → Option Value) (base : Heap) (x : Str) (k : Nat) (ps : List Str) (m : Mir) (dd : List D) : Prop where
  ex : ∃ (a : Addr) (fd : FuncData) (ds : List Value) (dvs : List V), FnOk P w K mg base (L2N.CX P w) k a fd ps (spM K mg m) ∧ mg x = some (.ref a) ∧ PySem.W.keepIn K (.ref a) = true ∧ Binds K fd ps ds ∧ Vals dvs ds ∧ ∀ io H, RVs K io H dd dvs
/-- a def called with its last parameters by keyword -/
structure CalK (P : Program) (w : World) (K : PySem.W.Frag) (mg : Str → Option Value) (base : Heap) (x : Str) (k : Nat) (ps : List Str) (m : Mir) (n : Nat) (ks : List Str) : Prop where
  ex : ∃ (a : Addr) (fd : FuncData), FnOk P w K mg base (L2N.CX P w) k a fd ps (spM K mg m) ∧ mg x = some (.ref a) ∧ PySem.W.keepIn K (.ref a) = true ∧ KBn K fd ps n ks (fun us ws => us ++ ws) (fun vs zs => vs ++ zs)
def dCallD (m : Mir) (dd : List D) (fs : Ev → Sto → Ans (List D)) : Ev → Sto → Ans D := fun env S => bindR (fs env S) fun ds S1 => m (ds ++ dd) S1
def dCallK (m : Mir) (n k : Nat) (fs fk : Ev → Sto → Ans (List D)) : Ev → Sto → Ans D := fun env S => bindR (fs env S) fun ds S1 => bindR (fk env S1) fun es S2 => if ds.length = n ∧ es.length = k then m (ds ++ es) S2 else none
section
variable {X : Cx} {W : WX} {ps ks : List Str} {k n : Nat} {m : Mir} {dd : List D} {x : Str} {p pos : Pos} {e : Expr} {es : List Expr} {kws : List Keyword} {fs fk : Ev → Sto → Ans (List D)}
theorem d_calK (C : CalK X.prog X.w X.K X.mg X.base x k ps m n ks) (hr : Room k X.A) (hg : Gl X x) (hx : ∀ σ, PassesAt (L2N.CX X.prog X.w) X σ (WE W σ)) (ha : DA X W (e :: es) fs) (hkw : DK X W kws fk)
    (hall : (backToKw pos (keywordEach kws X.env)).all (·.1.isSome) = true := by rfl) (hks : (backToKw pos (keywordEach kws X.env)).filterMap (·.1) = ks := by rfl)
    (hdb : (x == ("__debug__" : Str)) = false := by decide) (he : starEach (e :: es) X.env = (false, eval e X.env) :: starEach es X.env := by rfl) (hpl : ((backTo pos (starEach (e :: es) X.env)).any (·.1) || (backToKw pos (keywordEach kws X.env)).any (·.1.isNone)) = false := by rfl) :
    DE X W (.Call (.Name x p) (e :: es) kws pos) (dCallK m n ks.length fs fk) := by
  obtain ⟨a, fd, F, g, kp, b⟩ := C.ex
  exact pe_weak (pe_callNA (E := WE W) F hr hg g kp b hx ha hkw hall hks hdb he hpl) fun σ H Q ⟨io, S, env, r, S', rs, re, hf, hE⟩ =>
    tG_bind rs re hf hE fun ds S1 io1 H1 v e1 rs1 re1 rv1 h1 hE1 => tG_bind rs1 re1 h1 hE1 fun zs S2 io2 H2 w e2 rs2 re2 rv2 h2 hE2 => by
      split at h2
      · rename_i hl
        have rv1' := RVs.mono e2 _ _ rv1
        exact ⟨by rw [← rv1'.length]; exact hl.1, by rw [← rv2.length]; exact hl.2, ⟨io2, S2, ds ++ zs, r, S', rs2, rv1'.app rv2, h2, hE2⟩⟩
      · cases h2
end
/-- a def whose keyword-only parameters have one and the same kind of default: it stands as a def with defaults -/
theorem funD_mk {K : PySem.W.Frag} {x : Str} {st : Stmt} {a D T : Addr} {oc doc pm cd ct : Value} {od an : Option Addr} {sl : Array (Option Value)} {y : Str} (l : K.lookup a = some ⟨oc, od, .func (PySem.W.fnOf x x (defArgs st) (defBody st) (defScope st) .none (.ref D) doc pm an cd ct), sl⟩) (c : PySem.W.codeIn K cd x = true) (k : PySem.W.keepIn K (.ref a) = true) (n : PySem.W.nsIn K D y = some (some (.ref T))) :
    FunD K x x (defArgs st) (defBody st) (defScope st) [] [(y, V.ref T)] a (PySem.W.fnOf x x (defArgs st) (defBody st) (defScope st) .none (.ref D) doc pm an cd ct) :=
  ⟨⟨oc, od, .none, .ref D, doc, pm, an, cd, ct, sl, rfl, l, c, .inl ⟨rfl, rfl⟩, .inr ⟨D, rfl, fun q hq => by
    simp only [List.mem_singleton] at hq
    subst hq
    exact ⟨_, n, rfl⟩⟩⟩, k⟩
/-- the empty tuple that stands behind the top -/
theorem unit_RV {K : PySem.W.Frag} {T : Addr} {od : Option Addr} {n : Nat} {sl : Array (Option Value)} (l : K.lookup T = some ⟨.type "tuple", od, .seq #[] n, sl⟩) (io : List Addr) (H : Hp) : RVs K io H [.tup []] [V.ref T] := RVs.one (by
  unfold RV
  exact ⟨T, [], rfl, .inr ⟨_, _, _, l, rfl, rfl, Nat.zero_le _, .nil⟩, RVs.nil⟩)
theorem calD_mk {P : Program} {w : World} {K : PySem.W.Frag} {mg : Str → Option Value} {base : Heap} {x : Str} {st : Stmt} {a D T : Addr} {oc doc pm cd ct : Value} {od an od2 : Option Addr} {sl sl2 : Array (Option Value)} {y : Str} {k n2 : Nat} {ps : List Str} {m : Mir}
    (l : K.lookup a = some ⟨oc, od, .func (PySem.W.fnOf x x (defArgs st) (defBody st) (defScope st) .none (.ref D) doc pm an cd ct), sl⟩) (c : PySem.W.codeIn K cd x = true) (kp : PySem.W.keepIn K (.ref a) = true) (n : PySem.W.nsIn K D y = some (some (.ref T))) (lT : K.lookup T = some ⟨.type "tuple", od2, .seq #[] n2, sl2⟩)
    (g : mg x = some (.ref a)) (h : FnOk P w K mg base (L2N.CX P w) k a (PySem.W.fnOf x x (defArgs st) (defBody st) (defScope st) .none (.ref D) doc pm an cd ct) ps (spM K mg m)) {j : Nat} (hn : j + 1 = ps.length)
    (hb : ∀ (D : Addr) (doc pm : Value) (an : Option Addr) (cdv ct : Value) (us ks : List Value), us.length = j → ks.length = 1 → KwChain D ([y].zip ks) (bindArgs (PySem.W.fnOf x x (defArgs st) (defBody st) (defScope st) .none (.ref D) doc pm an cdv ct) ⟨us, []⟩) (ps.zip (us ++ ks))) : CalD P w K mg base x k ps m [.tup []] := by
  obtain ⟨ds, r, b⟩ := FunD.binds0 (ps := ps) (funD_mk l c kp n) j (by simp) hn hb
  exact ⟨a, _, ds, _, h, g, kp, b, r, unit_RV lT⟩
theorem calK_mk {P : Program} {w : World} {K : PySem.W.Frag} {mg : Str → Option Value} {base : Heap} {x : Str} {st : Stmt} {a : Addr} {kV doc pm cd ct : Value} {an : Option Addr} {k j : Nat} {ps ks : List Str} {m : Mir} (kp : PySem.W.keepIn K (.ref a) = true)
    (g : mg x = some (.ref a)) (h : FnOk P w K mg base (L2N.CX P w) k a (PySem.W.fnOf x x (defArgs st) (defBody st) (defScope st) .none kV doc pm an cd ct) ps (spM K mg m))
    (hb : ∀ us ws : List Value, us.length = j → ws.length = ks.length → bindArgs (PySem.W.fnOf x x (defArgs st) (defBody st) (defScope st) .none kV doc pm an cd ct) ⟨us, ks.zip ws⟩ = pure (ps.zip (us ++ ws))) : CalK P w K mg base x k ps m j ks :=
  ⟨a, _, h, g, kp, ⟨fun s us ws _ l1 l2 => .of_eq (hb us ws l1 l2), fun r1 r2 => r1.append r2⟩⟩
end DL
/-! sets of texts, as far as sorted(set(..)) asks -/
namespace SX
open PySem PySem.Spec PyProof.Rows L2
variable {P : Program} {w : World}
def txt (e : Int × Value) : Str := match e.2 with
  | .str x _ => x
  | _ => Str.empty
def OkE (w : World) (e : Int × Value) : Prop := ∃ x tk, e.2 = Value.str x tk ∧ e.1 = hashStr w x
/-- at a: a set with the members that S tells, n of them -/
def St (w : World) (h : Heap) (a : Addr) (S : Str → Bool) (n : Nat) : Prop :=
  ∃ o es ep t, h.get? a = some o ∧ o.ExactSet ∧ o.data = .set es ep t ∧ (∀ e ∈ es.toList, OkE w e) ∧ (es.toList.map txt).Nodup ∧ (∀ x, S x = true ↔ x ∈ es.toList.map txt) ∧
    es.size < scanBound ∧ t.fits es.size = true ∧ es.size = n ∧ Ris t.place.toList ∧ (w.params.followText "set-order" = true ∨ t.led = true)
theorem St.at {h h' : Heap} {a : Addr} {S : Str → Bool} {n : Nat} (R : St w h a S n) (k : ∀ o, h.get? a = some o → h'.get? a = some o) : St w h' a S n := by
  obtain ⟨o, es, ep, t, ho, r⟩ := R
  exact ⟨o, es, ep, t, k o ho, r⟩
end SX
namespace DL
open PySem PySem.Spec PyProof.Rows L2 RT RZ
/-! ### sorted(set(..)) of texts -/
/-- each text once -/
def uniqS : List Str → List Str
  | [] => []
  | x :: l => if x ∈ l then uniqS l else x :: uniqS l
def sortU (l : List Str) : List Str := sortS (uniqS l)
theorem RS.fresh {K : PySem.W.Frag} {io : List Addr} {S : Sto} {H : Hp} (h : RS K io S H) {p : Addr} {u : HO} (hp : H p = none) : RS K io S (upd H p u) := ⟨h.len, fun n o a e1 e2 => by
  have q := (h.obj n o a e1 e2).fresh (t := []) (o := u) hp
  rwa [List.append_nil] at q, h.inj⟩
end DL
namespace DL
open PySem PySem.Spec PyProof.Rows L2 RT RZ
/-! ### data as keys -/
mutual
def D.nk : D → Option NestedKey
  | .non => some .none
  | .bl b => some (.num (if b then 1 else 0))
  | .int i => some (.num i)
  | .str x => some (.text x)
  | .tup l => match D.nks l with
    | some ks => some (.tup ks)
    | none => none
  | .ref _ => none
def D.nks : List D → Option (List NestedKey)
  | [] => some []
  | d :: l => match D.nk d, D.nks l with
    | some k, some ks => some (k :: ks)
    | _, _ => none
end
/-- a number or a text -/
def keyO : D → Option Key
  | .int i => some (.inl i)
  | .str x => some (.inr x)
  | _ => none
/-- a key that no dict of numbers and texts holds -/
def missD (d : D) : Bool := match d with
  | .non => true
  | .tup l => match D.nks l with
    | some ks => decide ((NestedKey.tup ks).depth ≤ 8)
    | none => false
  | _ => false
@[simp] theorem keyO_kD (k : Key) : keyO (kD k) = some k := by cases k <;> rfl
/-! ### the operations -/
end DL
namespace DL
open PySem PySem.Spec PyProof.Rows L2 RT RZ
/-! ### dicts: new ones, what is written and read -/
/-! ### comprehensions with two fors -/
/-! list.pop(i) -/
theorem RVs.eraseIdx {K : PySem.W.Frag} {io : List Addr} {H : Hp} {ds : List D} {vs : List V} (h : RVs K io H ds vs) (k : Nat) : RVs K io H (ds.eraseIdx k) (vs.eraseIdx k) := by
  rw [List.eraseIdx_eq_take_drop_succ, List.eraseIdx_eq_take_drop_succ]
  exact (h.take _).append (h.drop _)
end DL
namespace DL
open PySem PySem.Spec PyProof.Rows L2 RT RZ
/-! ### tuples whose object is known: made by tuple(list), read by a loop and by dict() -/
/-! ### displays {k: v, ..} -/
end DL
namespace DL
open PySem PySem.Spec PyProof.Rows L2 RT RZ
/-! ### dict(zip(a, b)) of two tuples -/
end DL
open PySem PySem.Spec PyProof.Rows L2 RT RZ
namespace DL
end DL
namespace DL
open PySem PySem.Spec PyProof.Rows L2 RT RZ
/-! ### plain lemmas about the computations -/
section
variable {α β : Type} {S S' : Sto} {env env' : Ev}
@[simp] theorem bindR_okE (a : α) (S : Sto) (k : α → Sto → Ans β) : bindR (some (.ok a, S)) k = k a S := rfl
@[simp] theorem bindR_noneE (k : α → Sto → Ans β) : bindR (none : Ans α) k = none := rfl
@[simp] theorem bindR_exE (e : Exn) (S : Sto) (k : α → Sto → Ans β) : bindR (some (.ex e, S)) k = some (.ex e, S) := rfl
@[simp] theorem bindS_okE (a : α) (S : Sto) (env : Ev) (k : α → Sto → AnsS) : bindS (some (.ok a, S)) env k = k a S := rfl
@[simp] theorem bindS_exE (e : Exn) (S : Sto) (env : Ev) (k : α → Sto → AnsS) : bindS (some (.ex e, S)) env k = some (.ex e, env, S) := rfl
@[simp] theorem okO_someE (a : α) (S : Sto) : okO (some (a, S)) = some (.ok a, S) := rfl
@[simp] theorem okT_someE (b : Bool) (S : Sto) : okT (some b) S = some (.ok b, S) := rfl
@[simp] theorem intsOf_map : ∀ is : List Int, intsOf (is.map D.int) = some is
  | [] => rfl
  | i :: is => by simp [intsOf, intsOf_map is]
@[simp] theorem strsOf_map : ∀ is : List Str, strsOf (is.map D.str) = some is
  | [] => rfl
  | i :: is => by simp [strsOf, strsOf_map is]
@[simp] theorem blsOf_map : ∀ is : List Bool, blsOf (is.map D.bl) = some is
  | [] => rfl
  | i :: is => by simp [blsOf, blsOf_map is]
/-- turns enough for any while -/
@[irreducible] def fuel : Nat := 1000000
theorem fuel_ge : 1000000 ≤ fuel := by
  unfold fuel
  exact Nat.le_refl _
/-! how the computations go on, for simp -/
section
variable {fa fb : Ev → Sto → Ans D} {fs : Ev → Sto → Ans (List D)} {ga gb : Ev → Sto → Ans Bool} {f g : Ev → Sto → AnsS} {op : D → D → Sto → Option (D × Sto)} {op1 : D → Sto → Option (D × Sto)} {opn : List D → Sto → Option (D × Sto)} {opm : D → List D → Sto → Option (D × Sto)} {ops : D → D → D → Sto → Option Sto} {m : Mir}
@[simp] theorem E_bindS_none {α : Type} (env : Ev) (k : α → Sto → AnsS) : bindS (none : Ans α) env k = none := rfl
@[simp] theorem E_okO_none {α : Type} : okO (none : Option (α × Sto)) = none := rfl
@[simp] theorem E_okT_none (S : Sto) : okT none S = none := rfl
@[simp] theorem E_dVar (i : Nat) : dVar i env S = match env[i]? with
  | some (some d) => some (.ok d, S)
  | _ => none := rfl
@[simp] theorem E_dC (d : D) : dC d env S = some (.ok d, S) := rfl
@[simp] theorem E_dOp : dOp op fa fb env S = bindR (fa env S) fun a S1 => bindR (fb env S1) fun b S2 => okO (op a b S2) := rfl
@[simp] theorem E_dUn : dUn op1 fa env S = bindR (fa env S) fun a S1 => okO (op1 a S1) := rfl
@[simp] theorem E_dNil : dNil env S = some (.ok [], S) := rfl
@[simp] theorem E_dCons : dCons fa fs env S = bindR (fa env S) fun a S1 => bindR (fs env S1) fun r S2 => some (.ok (a :: r), S2) := rfl
@[simp] theorem E_dCB : dCB opn fs env S = bindR (fs env S) fun ds S1 => okO (opn ds S1) := rfl
@[simp] theorem E_dM (T : String) : dM T opm fa fs env S = bindR (fa env S) fun a S1 => if tyM T a S1 = true then bindR (fs env S1) fun ds S2 => okO (opm a ds S2) else none := rfl
@[simp] theorem E_dTru : dTru fa env S = bindR (fa env S) fun a S1 => okT (truD a S1) S1 := rfl
@[simp] theorem E_dBl : dBl fa env S = bindR (fa env S) fun a S1 => okT (blOf a) S1 := rfl
@[simp] theorem E_dAnd : dAnd ga gb env S = bindR (ga env S) fun a S1 => if a = true then gb env S1 else some (.ok false, S1) := rfl
@[simp] theorem E_dOr : dOr ga gb env S = bindR (ga env S) fun a S1 => if a = true then some (.ok true, S1) else gb env S1 := rfl
@[simp] theorem E_dNot : dNot ga env S = bindR (ga env S) fun a S1 => some (.ok (!a), S1) := rfl
@[simp] theorem E_dAndV : dAndV fa fb env S = bindR (fa env S) fun a S1 => bindR (okT (truD a S1) S1) fun c S1 => if c = true then fb env S1 else some (.ok a, S1) := rfl
@[simp] theorem E_dOrV : dOrV fa fb env S = bindR (fa env S) fun a S1 => bindR (okT (truD a S1) S1) fun c S1 => if c = true then some (.ok a, S1) else fb env S1 := rfl
@[simp] theorem E_dNotV : dNotV fa env S = bindR (fa env S) fun a S1 => bindR (okT (truD a S1) S1) fun c S1 => some (.ok (.bl (!c)), S1) := rfl
@[simp] theorem E_dIf : dIf ga fa fb env S = bindR (ga env S) fun c S1 => if c = true then fa env S1 else fb env S1 := rfl
@[simp] theorem E_dTrue : dTrue env S = some (.ok true, S) := rfl
@[simp] theorem E_dCall : dCall m fs env S = bindR (fs env S) fun ds S1 => m ds S1 := rfl
@[simp] theorem E_dCallD (dd : List D) : dCallD m dd fs env S = bindR (fs env S) fun ds S1 => m (ds ++ dd) S1 := rfl
@[simp] theorem E_dCallK {fk : Ev → Sto → Ans (List D)} (n k : Nat) : dCallK m n k fs fk env S = bindR (fs env S) fun ds S1 => bindR (fk env S1) fun es S2 => if ds.length = n ∧ es.length = k then m (ds ++ es) S2 else none := rfl
@[simp] theorem E_dIsi (T : String) : dIsi T fa env S = bindR (fa env S) fun a S1 => match tyN a S1 with
  | some n => match kitB n T with
    | some b => some (.ok (.bl b), S1)
    | none => none
  | none => none := rfl
@[simp] theorem E_dSl (fl fh : Option (Ev → Sto → Ans D)) : dSl fa fl fh env S = bindR (fa env S) fun a S1 => bindR (dOpt fl env S1) fun lo S2 => bindR (dOpt fh env S2) fun hi S3 => okO (gSl a lo hi S3) := rfl
@[simp] theorem E_dOpt_none : dOpt none env S = some (.ok none, S) := rfl
@[simp] theorem E_dOpt_some : dOpt (some fa) env S = bindR (fa env S) fun d S1 => match d with
  | .int i => some (.ok (some i), S1)
  | _ => none := rfl
@[simp] theorem E_sNext : sNext env S = some (.nx, env, S) := rfl
@[simp] theorem E_sSeq : sSeq f g env S = match f env S with
  | some (.nx, env1, S1) => g env1 S1
  | x => x := rfl
@[simp] theorem E_sAsg (t : Tg) : sAsg t fa env S = bindS (fa env S) env fun d S1 => match t.put d env with
  | some env1 => some (.nx, env1, S1)
  | none => none := rfl
@[simp] theorem E_sSub {fe fo fi : Ev → Sto → Ans D} : sSub ops fe fo fi env S = bindS (fe env S) env fun d S1 => bindS (fo env S1) env fun o S2 => bindS (fi env S2) env fun i S3 => match ops o i d S3 with
  | some S4 => some (.nx, env, S4)
  | none => none := rfl
@[simp] theorem E_sAug (i : Nat) : sAug i op fa env S = match env[i]? with
  | some (some x) => bindS (fa env S) env fun y S1 => match op x y S1 with
    | some (z, S2) => some (.nx, env.set i (some z), S2)
    | none => none
  | _ => none := rfl
@[simp] theorem E_sAugS {gg gp : D → D → Sto → Option (D × Sto)} {fe fo fi : Ev → Sto → Ans D} : sAugS gg gp ops fo fi fe env S = bindS (fo env S) env fun o S1 => bindS (fi env S1) env fun i S2 => bindS (okO (gg o i S2)) env fun x S3 => bindS (fe env S3) env fun y S4 => bindS (okO (gp x y S4)) env fun z S5 => match ops o i z S5 with
  | some S6 => some (.nx, env, S6)
  | none => none := rfl
@[simp] theorem E_sExpr : sExpr fa env S = bindS (fa env S) env fun _ S1 => some (.nx, env, S1) := rfl
@[simp] theorem E_sRet : sRet fa env S = bindS (fa env S) env fun d S1 => some (.rt d, env, S1) := rfl
@[simp] theorem E_sIf : sIf ga f g env S = bindS (ga env S) env fun c S1 => if c = true then f env S1 else g env S1 := rfl
@[simp] theorem E_sWhile (n : Nat) : sWhile n ga f env S = whileD ga f n env S := rfl
@[simp] theorem E_sFor {fw : Ev → Sto → Ans Wk} (t : Tg) : sFor fw t f env S = bindS (fw env S) env fun w S1 => forD w.ok t f w.items env S1 := rfl
@[simp] theorem E_wSeq : wSeq fa env S = bindR (fa env S) fun d S1 => match seqOf d S1 with
  | some ds => some (.ok ⟨fun S => seqOf d S = some ds, ds⟩, S1)
  | none => none := rfl
@[simp] theorem E_wRev : wRev fa env S = bindR (fa env S) fun d S1 => match seqOf d S1 with
  | some ds => some (.ok ⟨fun S => seqOf d S = some ds, ds.reverse⟩, S1)
  | none => none := rfl
@[simp] theorem E_wRange : wRange fs env S = bindR (fs env S) fun ds S1 => match ds with
  | [.int j] => if RgB j then some (.ok ⟨fun _ => True, rangeL 0 j.toNat⟩, S1) else none
  | [.int i, .int j] => if RgB i ∧ RgB j then some (.ok ⟨fun _ => True, rangeL i (j - i).toNat⟩, S1) else none
  | _ => none := rfl
@[simp] theorem E_wEnumA : wEnumA fs env S = bindR (fs env S) fun ds S1 => match ds with
  | [d] => match seqOf d S1 with
    | some xs => some (.ok ⟨fun S => seqOf d S = some xs, enumD xs⟩, S1)
    | none => none
  | _ => none := rfl
@[simp] theorem E_dLc {fw : Ev → Sto → Ans Wk} (t : Tg) (vs : List Nat) : dLc fw t ga fa vs env S = bindR (fw env S) fun w S1 => match lcD w.ok t ga fa (wipeE env vs) S1.length w.items (S1 ++ [.lst []]) with
  | some S2 => some (.ok (.ref S1.length), S2)
  | none => none := rfl
@[simp] theorem E_put_nm (i : Nat) (d : D) (env : Ev) : Tg.put (.nm i) d env = some (env.set i (some d)) := rfl
@[simp] theorem E_put_tp (l : List Tg) (ds : List D) (env : Ev) : Tg.put (.tp l) (.tup ds) env = Tg.puts l ds env := rfl
@[simp] theorem E_puts_nil (env : Ev) : Tg.puts [] [] env = some env := rfl
@[simp] theorem E_puts_cons (t : Tg) (ts : List Tg) (d : D) (ds : List D) (env : Ev) : Tg.puts (t :: ts) (d :: ds) env = match Tg.put t d env with
  | some env1 => Tg.puts ts ds env1
  | none => none := rfl
@[simp] theorem E_runB (n k : Nat) (ds : List D) : runB n k f ds S = if ds.length = n then match f (ds.map some ++ List.replicate (k - n) none) S with
    | some (.nx, _, S') => some (.ok .non, S')
    | some (.rt d, _, S') => some (.ok d, S')
    | some (.ex e, _, S') => some (.ex e, S')
    | _ => none
  else none := rfl
@[simp] theorem E_wipeE_nil (env : Ev) : wipeE env [] = env := rfl
@[simp] theorem E_wipeE_cons (env : Ev) (v : Nat) (vs : List Nat) : wipeE env (v :: vs) = (wipeE env vs).set v none := rfl
@[simp] theorem E_gAdd_int (i j : Int) : gAdd (.int i) (.int j) S = some (.int (i + j), S) := rfl
@[simp] theorem E_gSub_int (i j : Int) : gSub (.int i) (.int j) S = some (.int (i - j), S) := rfl
@[simp] theorem E_gIAdd_int (i j : Int) : gIAdd (.int i) (.int j) S = some (.int (i + j), S) := rfl
@[simp] theorem E_gMulR (i j : Int) (h1 : -(2 ^ 64) < j) (h2 : j < 2 ^ 64) : gMul (.int i) (.int j) S = some (.int (i * j), S) := if_pos (.inl (.inr ⟨h1, h2⟩))
@[simp] theorem E_gMod (i j : Int) (h : 0 < j) : gMod (.int i) (.int j) S = some (.int (i % j), S) := if_pos h
theorem E_gFdiv (i j : Int) (h : CDivW i j) : gFdiv (.int i) (.int j) S = some (.int (i / j), S) := if_pos h
@[simp] theorem E_gPow (i j : Int) (h0 : 0 ≤ j) (h1 : j ≤ 1000000) (h2 : i.natAbs < 2 ^ 64) : gPow (.int i) (.int j) S = some (.int (i ^ j.toNat), S) := if_pos ⟨h0, h1, h2⟩
@[simp] theorem E_gEq (a b : D) : gEq a b S = blS (eqB a b S) S := rfl
@[simp] theorem E_gNe (a b : D) : gNe a b S = blS ((eqB a b S).map (!·)) S := rfl
@[simp] theorem E_eqB_int (i j : Int) : eqB (.int i) (.int j) S = some (decide (i = j)) := rfl
@[simp] theorem E_eqB_str (i j : Str) : eqB (.str i) (.str j) S = some (decide (i = j)) := rfl
@[simp] theorem E_eqB_bl (i j : Bool) : eqB (.bl i) (.bl j) S = some (decide (i = j)) := rfl
@[simp] theorem E_blS (b : Bool) : blS (some b) S = some (.bl b, S) := rfl
@[simp] theorem E_blS0 : blS none S = none := rfl
@[simp] theorem E_blOf (b : Bool) : blOf (.bl b) = some b := rfl
@[simp] theorem E_gLt_int (i j : Int) : gLt (.int i) (.int j) S = some (.bl (decide (i < j)), S) := rfl
@[simp] theorem E_gLe_int (i j : Int) : gLe (.int i) (.int j) S = some (.bl (decide (i ≤ j)), S) := rfl
@[simp] theorem E_gGt_int (i j : Int) : gGt (.int i) (.int j) S = some (.bl (decide (j < i)), S) := rfl
@[simp] theorem E_gGe_int (i j : Int) : gGe (.int i) (.int j) S = some (.bl (decide (j ≤ i)), S) := rfl
@[simp] theorem E_gIx_ref (n : Nat) (i : Int) : gIx (.ref n) (.int i) S = match seqOf (.ref n) S with
    | some ds => match atI ds i with
      | some d => some (d, S)
      | none => none
    | none => none := rfl
@[simp] theorem E_gIx_tup (ds : List D) (i : Int) : gIx (.tup ds) (.int i) S = match atI ds i with
      | some d => some (d, S)
      | none => none := rfl
@[simp] theorem E_gIxL (n : Nat) (i : Int) : gIxL (.ref n) (.int i) S = match seqOf (.ref n) S with
    | some ds => match atI ds i with
      | some d => if 0 ≤ i then some (d, S) else none
      | none => none
    | none => none := rfl
@[simp] theorem E_gSetL (n : Nat) (k : Int) (d : D) : gSetL (.ref n) (.int k) d S = match S[n]? with
    | some (.lst ds) => match ixN ds.length k with
      | some j => some (S.set n (.lst (ds.set j d)))
      | none => none
    | _ => none := rfl
theorem E_seq_ref (n : Nat) : seqOf (.ref n) S = match S[n]? with
    | some (.lst ds) => some ds
    | some (.rol ds) => some ds
    | _ => none := rfl
@[simp] theorem E_cInt (i : Int) : cInt [.int i] S = some (.int i, S) := rfl
@[simp] theorem E_cIntB (b : Bool) : cInt [.bl b] S = some (.int (if b then 1 else 0), S) := rfl
@[simp] theorem E_cAbs (i : Int) : cAbs [.int i] S = some (.int (if i < 0 then -i else i), S) := rfl
@[simp] theorem E_cMax2 (i j : Int) : cMax2 [.int i, .int j] S = some (.int (if j > i then j else i), S) := rfl
@[simp] theorem E_cLen_ref (n : Nat) : cLen [.ref n] S = match seqOf (.ref n) S with
    | some ds => some (.int ds.length, S)
    | none => none := rfl
@[simp] theorem E_cLen_tup (ds : List D) : cLen [.tup ds] S = some (.int ds.length, S) := rfl
@[simp] theorem E_cList (d : D) : cList [d] S = match seqOf d S with
    | some ds => some (.ref S.length, S ++ [.lst ds])
    | none => none := rfl
@[simp] theorem E_cTuple (d : D) : cTuple [d] S = match seqOf d S with
    | some ds => some (.tup ds, S)
    | none => none := rfl
@[simp] theorem E_mAppend (n : Nat) (d : D) : mAppend (.ref n) [d] S = match S[n]? with
    | some (.lst ds) => if ds.length < sizeLine then some (.non, S.set n (.lst (ds ++ [d]))) else none
    | _ => none := rfl
@[simp] theorem E_mPop (n : Nat) : mPop (.ref n) [] S = match S[n]? with
    | some (.lst ds) => match ds[ds.length - 1]? with
      | some d => some (d, S.set n (.lst ds.dropLast))
      | none => none
    | _ => none := rfl
@[simp] theorem E_tyM_list (n : Nat) : tyM "list" (.ref n) S = (seqOf (.ref n) S).isSome := by
  unfold tyM
  simp only
  split
  · rename_i es h
    unfold seqOf
    simp [h]
  · simp
@[simp] theorem E_gTup (ds : List D) (h : ds.length ≤ sizeLine) : gTup ds S = some (.tup ds, S) := if_pos h
@[simp] theorem E_gLst (ds : List D) (h : ds.length ≤ sizeLine) : gLst ds S = some (.ref S.length, S ++ [.lst ds]) := if_pos h
@[simp] theorem E_truD_bl (b : Bool) : truD (.bl b) S = some b := rfl
@[simp] theorem E_truD_int (i : Int) : truD (.int i) S = some (i != 0) := rfl
@[simp] theorem E_truD_ref (n : Nat) : truD (.ref n) S = (seqOf (.ref n) S).map fun ds => !ds.isEmpty := rfl
@[simp] theorem E_truD_tup (ds : List D) : truD (.tup ds) S = some (!ds.isEmpty) := rfl
theorem line_big : (1000000 : Nat) ≤ sizeLine := by decide
@[simp] theorem line0 : 0 ≤ sizeLine := Nat.zero_le _
end
theorem atI_of {α : Type} {xs : List α} {i : Int} {k : Nat} {x : α} (hi : i = k) (h : xs[k]? = some x) : atI xs i = some x := by
  subst hi
  exact atI_nat h
/-! kinds of values, for isinstance -/
@[simp] theorem kit_ii : kitB "int" "int" = some true := by decide +kernel
@[simp] theorem kit_ib : kitB "int" "bool" = some false := by decide +kernel
@[simp] theorem kit_tt : kitB "tuple" "tuple" = some true := by decide +kernel
@[simp] theorem kit_tb : kitB "tuple" "bool" = some false := by decide +kernel
@[simp] theorem kit_ss : kitB "str" "str" = some true := by decide +kernel
@[simp] theorem kit_ns : kitB "NoneType" "str" = some false := by decide +kernel
@[simp] theorem kit_ts : kitB "tuple" "str" = some false := by decide +kernel
@[simp] theorem kit_bb : kitB "bool" "bool" = some true := by decide +kernel
@[simp] theorem kit_nt : kitB "NoneType" "tuple" = some false := by decide +kernel
@[simp] theorem kit_st : kitB "str" "tuple" = some false := by decide +kernel
@[simp] theorem E_tyN_int (i : Int) : tyN (.int i) S = some "int" := rfl
@[simp] theorem E_tyN_tup (l : List D) : tyN (.tup l) S = some "tuple" := rfl
@[simp] theorem E_tyN_bl (i : Bool) : tyN (.bl i) S = some "bool" := rfl
@[simp] theorem E_tyN_str (i : Str) : tyN (.str i) S = some "str" := rfl
@[simp] theorem E_tyN_non : tyN .non S = some "NoneType" := rfl
/-! locations -/
theorem get_app (S T : Sto) (k : Nat) : (S ++ T)[S.length + k]? = T[k]? := by
  rw [List.getElem?_append_right (Nat.le_add_right _ _), Nat.add_sub_cancel_left]
@[simp] theorem get_app0 (S T : Sto) : (S ++ T)[S.length]? = T[0]? := get_app S T 0
@[simp] theorem get_last (S : Sto) (o : O) : (S ++ [o])[S.length]? = some o := get_app S [o] 0
theorem get_old {S T : Sto} {n : Nat} {o : O} (h : S[n]? = some o) : (S ++ T)[n]? = some o := by
  rw [List.getElem?_append_left (List.getElem?_eq_some_iff.mp h).1]
  exact h
@[simp] theorem set_last (S : Sto) (o u : O) : (S ++ [o]).set S.length u = S ++ [u] := by
  rw [List.set_append_right _ _ (Nat.le_refl _), Nat.sub_self]
  rfl
theorem seq_lst {S : Sto} {n : Nat} {ds : List D} (h : S[n]? = some (.lst ds)) : seqOf (.ref n) S = some ds := by simp [seqOf, h]
@[simp] theorem seq_tup (ds : List D) (S : Sto) : seqOf (.tup ds) S = some ds := rfl
@[simp] theorem seq_last (S : Sto) (ds : List D) : seqOf (.ref S.length) (S ++ [.lst ds]) = some ds := by simp [seqOf]
theorem lst_lt {S : Sto} {n : Nat} {o : O} (h : S[n]? = some o) : n < S.length := (List.getElem?_eq_some_iff.mp h).1
/-! loops -/
theorem forD_rule {ok : Sto → Prop} {t : Tg} {fb : Ev → Sto → AnsS} (Inv : Nat → Ev → Sto → Prop) (Ret : D → Ev → Sto → Prop) : ∀ (items : List D) (i : Nat) (env : Ev) (S : Sto) (hok : ∀ j env S, j ≤ i + items.length → Inv j env S → ok S) (hI : Inv i env S)
    (step : ∀ j x env S, items[j]? = some x → Inv (i + j) env S → ∃ env1 env2 S2, t.put x env = some env1 ∧ ((fb env1 S = some (.nx, env2, S2) ∧ Inv (i + j + 1) env2 S2) ∨ (fb env1 S = some (.ct, env2, S2) ∧ Inv (i + j + 1) env2 S2) ∨ ∃ d, fb env1 S = some (.rt d, env2, S2) ∧ Ret d env2 S2)),
    (∃ env' S', forD ok t fb items env S = some (.nx, env', S') ∧ Inv (i + items.length) env' S') ∨ ∃ d env' S', forD ok t fb items env S = some (.rt d, env', S') ∧ Ret d env' S'
  | [], i, env, S, hok, hI, _ => .inl ⟨env, S, by unfold forD; rw [if_pos (hok i env S (by simp) hI)], hI⟩
  | x :: xs, i, env, S, hok, hI, step => by
    unfold forD
    rw [if_pos (hok i env S (by omega) hI)]
    obtain ⟨env1, env2, S2, h1, h2⟩ := step 0 x env S rfl hI
    rw [h1]
    have ih := fun hI2 => forD_rule Inv Ret xs (i + 1) env2 S2 (fun j env S hj h => hok j env S (by simp only [List.length_cons]; omega) h) hI2 (fun j y env S hy hj => by
      have q := step (j + 1) y env S (by simpa using hy) (by rw [show i + (j + 1) = i + 1 + j by omega]; exact hj)
      rw [show i + (j + 1) + 1 = i + 1 + j + 1 by omega] at q
      exact q)
    rcases h2 with ⟨h2, h3⟩ | ⟨h2, h3⟩ | ⟨d, h2, h3⟩
    · simp only [h2]
      have q := ih h3
      rw [show i + 1 + xs.length = i + (x :: xs).length by simp only [List.length_cons]; omega] at q
      exact q
    · simp only [h2]
      have q := ih h3
      rw [show i + 1 + xs.length = i + (x :: xs).length by simp only [List.length_cons]; omega] at q
      exact q
    · simp only [h2]
      exact .inr ⟨d, env2, S2, rfl, h3⟩
/-- a loop that is not left early -/
theorem forD_all {ok : Sto → Prop} {t : Tg} {fb : Ev → Sto → AnsS} (Inv : Nat → Ev → Sto → Prop) (items : List D) (env : Ev) (S : Sto) (hok : ∀ j env S, j ≤ items.length → Inv j env S → ok S) (hI : Inv 0 env S)
    (step : ∀ j x env S, items[j]? = some x → Inv j env S → ∃ env1 env2 S2, t.put x env = some env1 ∧ fb env1 S = some (.nx, env2, S2) ∧ Inv (j + 1) env2 S2) :
    ∃ env' S', forD ok t fb items env S = some (.nx, env', S') ∧ Inv items.length env' S' := by
  rcases forD_rule (fb := fb) Inv (fun _ _ _ => False) items 0 env S (by simpa using hok) hI (fun j x env S hx hj => by
    rw [Nat.zero_add] at hj ⊢
    obtain ⟨e1, e2, S2, a, b, c⟩ := step j x env S hx hj
    exact ⟨e1, e2, S2, a, .inl ⟨b, c⟩⟩) with h | ⟨_, _, _, _, h⟩
  · simpa using h
  · exact h.elim
/-! == of plain data -/
@[simp] theorem pys_ints : ∀ is : List Int, D.pys (is.map D.int) = some (is.map PyData.int)
  | [] => rfl
  | i :: is => by simp [D.pys, D.py, pys_ints is]
theorem eqvAll_ints : ∀ a b : List Int, PyData.eqvAll (a.map PyData.int) (b.map PyData.int) = decide (a = b)
  | [], [] => by simp [PyData.eqvAll]
  | [], _ :: _ => by simp [PyData.eqvAll]
  | _ :: _, [] => by simp [PyData.eqvAll]
  | x :: a, y :: b => by
    simp only [List.map_cons, PyData.eqvAll, PyData.eqv, eqvAll_ints a b]
    rw [Bool.eq_iff_iff]
    simp
theorem lay_ints : ∀ a : List Int, PyData.canLayAll0 (a.map PyData.int) = true
  | [] => by simp [PyData.canLayAll0]
  | _ :: a => by simp [PyData.canLayAll0, PyData.canLay0, lay_ints a]
theorem depth_ints : ∀ a : List Int, PyData.depthAll (a.map PyData.int) = 0
  | [] => by simp [PyData.depthAll]
  | _ :: a => by simp [PyData.depthAll, PyData.depth, depth_ints a]
theorem shaped_ints (a : List Int) : SeqAt.shaped (.tuple (a.map PyData.int)) = true := by
  simp [SeqAt.shaped, PyData.canLay0, PyData.depth, lay_ints, depth_ints]
@[simp] theorem eqB_ints (a b : List Int) (S : Sto) : eqB (.tup (a.map D.int)) (.tup (b.map D.int)) S = some (decide (a = b)) := by
  simp [eqB, deepEq, toPy, D.py, shaped_ints, PyData.eqv, eqvAll_ints]
/-! slices -/
@[simp] theorem cutD_hi (xs : List D) (k : Nat) : cutD xs none (some (k : Int)) = xs.take k := by
  unfold cutD HT.sIx
  simp only [Nat.sub_zero, List.drop_zero]
  rw [if_neg (by omega), Int.toNat_natCast]
  by_cases h : k ≤ xs.length
  · rw [Nat.min_eq_left h]
  · rw [Nat.min_eq_right (by omega), List.take_length, List.take_of_length_le (by omega)]
@[simp] theorem E_gSl_tup (ds : List D) (lo hi : Option Int) (S : Sto) : gSl (.tup ds) lo hi S = some (.tup (cutD ds lo hi), S) := rfl
@[simp] theorem E_gSl_ref (n : Nat) (lo hi : Option Int) (S : Sto) : gSl (.ref n) lo hi S = match seqOf (.ref n) S with
    | some ds => some (.ref S.length, S ++ [.lst (cutD ds lo hi)])
    | none => none := rfl
@[simp] theorem rangeL_len (lo : Int) (n : Nat) : (rangeL lo n).length = n := rangeL_length
end
end DL
namespace VL
open PySem PySem.Spec PyProof.Rows L2 RT RZ DL
/-! ### plain values: lists are values; `own` is a list that its variable alone holds; `tape` is the tape -/
inductive P where
  | non | bl (b : Bool) | int (i : Int) | str (x : Str) | tup (l : List P) | lst (l : List P) | own (l : List P) | dct (l : List P) | ownd (l : List P) | rot (l : List P) | exn (c : Str) (l : List P) | tape | scr (l : List Int) | ow2 (l : List P)
structure Tau where
  ns : List Int
  pl : Int
  nx : Int
  tot : Int
structure XP where
  cls : Str
  args : Option (List (Str × P))
inductive RP (α : Type) where
  | ok (a : α) | ex (x : XP)
abbrev AP (α : Type) := Option (RP α × Tau)
abbrev PE := List (Option P)
def bindV {α β : Type} (x : AP α) (k : α → Tau → AP β) : AP β := match x with
  | none => none
  | some (.ex e, τ) => some (.ex e, τ)
  | some (.ok a, τ) => k a τ
/-- a dict's entry as data -/
def prD (e : D × D) : D := .tup [e.1, e.2]
/-- an exception's field as data -/
def prF (e : Str × D) : D := .tup [.str e.1, e.2]
def Exn.fs (x : Exn) : List D := (x.args.getD []).map prF
section
variable (t : Nat)
mutual
def Rd (S : Sto) (A : Nat → Prop) : P → D → Prop
  | .non, d => d = .non
  | .bl b, d => d = .bl b
  | .int i, d => d = .int i
  | .str x, d => d = .str x
  | .tup l, d => ∃ ds, d = .tup ds ∧ Rds S A l ds
  | .lst l, d => ∃ n ds, d = .ref n ∧ A n ∧ S[n]? = some (.lst ds) ∧ Rds S A l ds
  | .dct l, d => ∃ n es, d = .ref n ∧ A n ∧ S[n]? = some (.dct es) ∧ Rds S A l (es.map prD)
  | .rot l, d => ∃ n ds, d = .ref n ∧ A n ∧ S[n]? = some (.rot ds) ∧ Rds S A l ds
  | .exn c l, d => ∃ n x, d = .ref n ∧ A n ∧ S[n]? = some (.exn x) ∧ x.cls = c ∧ Rds S A l (Exn.fs x)
  | .own _, _ => False
  | .ownd _, _ => False
  | .ow2 _, _ => False
  | .tape, d => d = .ref t
  | .scr l, d => ∃ n, d = .ref n ∧ A n ∧ S[n]? = some (.rol (l.map D.int))
def Rds (S : Sto) (A : Nat → Prop) : List P → List D → Prop
  | [], ds => ds = []
  | p :: ps, ds => ∃ d r, ds = d :: r ∧ Rd S A p d ∧ Rds S A ps r
end
end
section
variable {t : Nat} {S S' : Sto} {A B : Nat → Prop}
mutual
theorem Rd.imp (h : ∀ n o, A n → S[n]? = some o → B n ∧ S'[n]? = some o) : ∀ (p : P) (d : D), Rd t S A p d → Rd t S' B p d
  | .non, _, q => by simpa [Rd] using q
  | .bl _, _, q => by simpa [Rd] using q
  | .int _, _, q => by simpa [Rd] using q
  | .str _, _, q => by simpa [Rd] using q
  | .tape, _, q => by simpa [Rd] using q
  | .own _, _, q => by simp [Rd] at q
  | .tup l, d, q => by
    unfold Rd at q ⊢
    obtain ⟨ds, e, q⟩ := q
    exact ⟨ds, e, Rds.imp h l ds q⟩
  | .lst l, d, q => by
    unfold Rd at q ⊢
    obtain ⟨n, ds, e, a, q1, q⟩ := q
    exact ⟨n, ds, e, (h n _ a q1).1, (h n _ a q1).2, Rds.imp h l ds q⟩
  | .ownd _, _, q => by simp [Rd] at q
  | .ow2 _, _, q => by simp [Rd] at q
  | .dct l, d, q => by
    unfold Rd at q ⊢
    obtain ⟨n, ds, e, a, q1, q⟩ := q
    exact ⟨n, ds, e, (h n _ a q1).1, (h n _ a q1).2, Rds.imp h l _ q⟩
  | .rot l, d, q => by
    unfold Rd at q ⊢
    obtain ⟨n, ds, e, a, q1, q⟩ := q
    exact ⟨n, ds, e, (h n _ a q1).1, (h n _ a q1).2, Rds.imp h l _ q⟩
  | .exn c l, d, q => by
    unfold Rd at q ⊢
    obtain ⟨n, x, e, a, q1, q2, q⟩ := q
    exact ⟨n, x, e, (h n _ a q1).1, (h n _ a q1).2, q2, Rds.imp h l _ q⟩
  | .scr l, d, q => by
    unfold Rd at q ⊢
    obtain ⟨n, e, a, q1⟩ := q
    exact ⟨n, e, (h n _ a q1).1, (h n _ a q1).2⟩
theorem Rds.imp (h : ∀ n o, A n → S[n]? = some o → B n ∧ S'[n]? = some o) : ∀ (p : List P) (d : List D), Rds t S A p d → Rds t S' B p d
  | [], _, q => by simpa [Rds] using q
  | p :: ps, ds, q => by
    unfold Rds at q ⊢
    obtain ⟨d, r, e, q1, q2⟩ := q
    exact ⟨d, r, e, Rd.imp h p d q1, Rds.imp h ps r q2⟩
end
theorem Rds.nil : Rds t S A [] [] := by
  unfold Rds
  rfl
theorem Rds.cons {p : P} {ps : List P} {d : D} {ds : List D} (h : Rd t S A p d) (g : Rds t S A ps ds) : Rds t S A (p :: ps) (d :: ds) := by
  unfold Rds
  exact ⟨d, ds, rfl, h, g⟩
theorem Rds.len : ∀ {ps : List P} {ds : List D}, Rds t S A ps ds → ps.length = ds.length
  | [], _, q => by
    unfold Rds at q
    subst q
    rfl
  | p :: ps, _, q => by
    unfold Rds at q
    obtain ⟨d, r, rfl, _, q2⟩ := q
    simp [Rds.len q2]
theorem Rds.app : ∀ {ps qs : List P} {ds es : List D}, Rds t S A ps ds → Rds t S A qs es → Rds t S A (ps ++ qs) (ds ++ es)
  | [], _, _, _, q, r => by
    unfold Rds at q
    subst q
    exact r
  | p :: ps, _, _, _, q, r => by
    unfold Rds at q
    obtain ⟨d, r', rfl, q1, q2⟩ := q
    exact Rds.cons q1 (Rds.app q2 r)
theorem Rds.get : ∀ {ps : List P} {ds : List D} {i : Nat} {p : P}, Rds t S A ps ds → ps[i]? = some p → ∃ d, ds[i]? = some d ∧ Rd t S A p d
  | [], _, _, _, _, e => by simp at e
  | p :: ps, _, 0, x, q, e => by
    unfold Rds at q
    obtain ⟨d, r', rfl, q1, q2⟩ := q
    simp at e
    subst e
    exact ⟨d, rfl, q1⟩
  | p :: ps, _, i + 1, x, q, e => by
    unfold Rds at q
    obtain ⟨d, r', rfl, q1, q2⟩ := q
    simp at e
    obtain ⟨z, e1, e2⟩ := Rds.get q2 e
    exact ⟨z, by simpa using e1, e2⟩
theorem Rds.set {p : P} {d : D} (h : Rd t S A p d) : ∀ {ps : List P} {ds : List D} (i : Nat), Rds t S A ps ds → Rds t S A (ps.set i p) (ds.set i d)
  | [], _, i, q => by
    unfold Rds at q
    subst q
    exact Rds.nil
  | x :: ps, _, 0, q => by
    unfold Rds at q
    obtain ⟨d, r', rfl, q1, q2⟩ := q
    exact Rds.cons h q2
  | x :: ps, _, i + 1, q => by
    unfold Rds at q
    obtain ⟨d, r', rfl, q1, q2⟩ := q
    exact Rds.cons q1 (Rds.set h i q2)
theorem Rds.take : ∀ {ps : List P} {ds : List D} (n : Nat), Rds t S A ps ds → Rds t S A (ps.take n) (ds.take n)
  | _, _, 0, _ => by simpa using Rds.nil
  | [], _, n + 1, q => by
    unfold Rds at q
    subst q
    simpa using Rds.nil
  | x :: ps, _, n + 1, q => by
    unfold Rds at q
    obtain ⟨d, r', rfl, q1, q2⟩ := q
    exact Rds.cons q1 (Rds.take n q2)
theorem Rds.drop : ∀ {ps : List P} {ds : List D} (n : Nat), Rds t S A ps ds → Rds t S A (ps.drop n) (ds.drop n)
  | _, _, 0, q => by simpa using q
  | [], _, n + 1, q => by
    unfold Rds at q
    subst q
    simpa using Rds.nil
  | x :: ps, _, n + 1, q => by
    unfold Rds at q
    obtain ⟨d, r', rfl, q1, q2⟩ := q
    exact Rds.drop n q2
theorem Rds.reverse : ∀ {ps : List P} {ds : List D}, Rds t S A ps ds → Rds t S A ps.reverse ds.reverse
  | [], _, q => by
    unfold Rds at q
    subst q
    simpa using Rds.nil
  | x :: ps, _, q => by
    unfold Rds at q
    obtain ⟨d, r', rfl, q1, q2⟩ := q
    rw [List.reverse_cons, List.reverse_cons]
    exact (Rds.reverse q2).app (Rds.cons q1 Rds.nil)
/-! ### flat values hold no list -/
mutual
def P.flat : P → Bool
  | .lst _ => false
  | .own _ => false
  | .dct _ => false
  | .ownd _ => false
  | .ow2 _ => false
  | .rot _ => false
  | .scr _ => false
  | .exn _ _ => false
  | .tape => false
  | .tup l => P.flats l
  | _ => true
def P.flats : List P → Bool
  | [] => true
  | p :: ps => P.flat p && P.flats ps
end
mutual
theorem Rd.flat : ∀ (p : P) (d : D), p.flat = true → Rd t S A p d → Rd t S' B p d
  | .non, _, _, q => by simpa [Rd] using q
  | .bl _, _, _, q => by simpa [Rd] using q
  | .int _, _, _, q => by simpa [Rd] using q
  | .str _, _, _, q => by simpa [Rd] using q
  | .tape, _, f, _ => by simp [P.flat] at f
  | .own _, _, _, q => by simp [Rd] at q
  | .tup l, d, f, q => by
    unfold Rd at q ⊢
    obtain ⟨ds, e, q⟩ := q
    exact ⟨ds, e, Rds.flat l ds (by simpa [P.flat] using f) q⟩
  | .lst l, _, f, _ => by simp [P.flat] at f
  | .dct l, _, f, _ => by simp [P.flat] at f
  | .rot l, _, f, _ => by simp [P.flat] at f
  | .scr l, _, f, _ => by simp [P.flat] at f
  | .exn _ l, _, f, _ => by simp [P.flat] at f
  | .ownd _, _, _, q => by simp [Rd] at q
  | .ow2 _, _, _, q => by simp [Rd] at q
theorem Rds.flat : ∀ (p : List P) (d : List D), P.flats p = true → Rds t S A p d → Rds t S' B p d
  | [], _, _, q => by simpa [Rds] using q
  | p :: ps, ds, f, q => by
    unfold Rds at q ⊢
    obtain ⟨d, r, e, q1, q2⟩ := q
    simp only [P.flats, Bool.and_eq_true] at f
    exact ⟨d, r, e, Rd.flat p d f.1 q1, Rds.flat ps r f.2 q2⟩
end
end
def P.isOwn : P → Bool
  | .own _ => true
  | .ownd _ => true
  | .ow2 _ => true
  | _ => false
/-- a list that is no longer its variable's alone -/
def P.thaw : P → P
  | .own l => .lst l
  | .ownd l => .dct l
  | .ow2 l => .lst l
  | p => p
/-- lists that their holder's list alone holds -/
def Rd2 (t : Nat) (S : Sto) (A B : Nat → Prop) (l : List P) (ds : List D) : Prop := ds.length = l.length ∧ ∀ (j : Nat) (p : P), l[j]? = some p → ∃ m lj es, p = .lst lj ∧ ds[j]? = some (.ref m) ∧ A m ∧ S[m]? = some (.lst es) ∧ Rds t S B lj es
def RdT (t : Nat) (S : Sto) (A B : Nat → Prop) : P → D → Prop
  | .own l, d => ∃ n ds, d = .ref n ∧ A n ∧ S[n]? = some (.lst ds) ∧ Rds t S B l ds
  | .ownd l, d => ∃ n es, d = .ref n ∧ A n ∧ S[n]? = some (.dct es) ∧ Rds t S B l (es.map prD)
  | .ow2 l, d => ∃ n ds, d = .ref n ∧ A n ∧ S[n]? = some (.lst ds) ∧ Rd2 t S A B l ds
  | p, d => Rd t S B p d
/-- what its variable alone holds -/
def OwR (t : Nat) (S : Sto) (A B : Nat → Prop) : P → O → Prop
  | .own l, .lst ds => Rds t S B l ds
  | .ownd l, .dct es => Rds t S B l (es.map prD)
  | .ow2 l, .lst ds => Rd2 t S A B l ds
  | _, _ => False
/-- the objects that an own value is made of -/
def Hd (p : P) (ob : O) (m : Nat) : Prop := ∃ (l : List P) (ds : List D) (j : Nat), p = .ow2 l ∧ ob = .lst ds ∧ ds[j]? = some (.ref m)
theorem RdT.ow {t : Nat} {S : Sto} {A B : Nat → Prop} {p : P} {d : D} (h : RdT t S A B p d) (o : p.isOwn = true) : ∃ n ob, d = .ref n ∧ A n ∧ S[n]? = some ob ∧ OwR t S A B p ob := by
  cases p <;> first | cases o | skip
  all_goals (obtain ⟨n, ds, e, a, g, q⟩ := h; exact ⟨n, _, e, a, g, q⟩)
theorem OwR.t {t : Nat} {S : Sto} {A B : Nat → Prop} {p : P} {n : Nat} {ob : O} (q : OwR t S A B p ob) (a : A n) (e : S[n]? = some ob) : RdT t S A B p (.ref n) := by
  cases p <;> cases ob <;> first | exact q.elim | skip
  all_goals exact ⟨n, _, rfl, a, e, q⟩
theorem OwR.imp {t : Nat} {S S' : Sto} {A A' B B' : Nat → Prop} {p : P} {ob : O} (g : ∀ m u, Hd p ob m → A m → S[m]? = some u → A' m ∧ S'[m]? = some u) (f : ∀ n ob, B n → S[n]? = some ob → B' n ∧ S'[n]? = some ob) (q : OwR t S A B p ob) : OwR t S' A' B' p ob := by
  cases p <;> cases ob <;> first | exact q.elim | skip
  · exact Rds.imp f _ _ q
  · exact Rds.imp f _ _ q
  · obtain ⟨q1, q2⟩ := q
    refine ⟨q1, fun j p e => ?_⟩
    obtain ⟨m, lj, es, h1, h2, h3, h4, h5⟩ := q2 j p e
    obtain ⟨k1, k2⟩ := g m _ ⟨_, _, j, rfl, rfl, h2⟩ h3 h4
    exact ⟨m, lj, es, h1, h2, k1, k2, Rds.imp f _ _ h5⟩
theorem RdT.map' {t : Nat} {S S' : Sto} {A A' B B' : Nat → Prop} {p : P} {d : D} (h : RdT t S A B p d) (g : p.isOwn = true → ∀ n ob, d = .ref n ∨ (∃ k u, d = .ref k ∧ S[k]? = some u ∧ Hd p u n) → A n → S[n]? = some ob → A' n ∧ S'[n]? = some ob) (f : ∀ n ob, B n → S[n]? = some ob → B' n ∧ S'[n]? = some ob) : RdT t S' A' B' p d := by
  by_cases o : p.isOwn = true
  · obtain ⟨n, ob, rfl, a, e, q⟩ := h.ow o
    obtain ⟨a', e'⟩ := g o n ob (.inl rfl) a e
    exact (q.imp (fun m u hm => g o m u (.inr ⟨n, ob, rfl, e, hm⟩)) f).t a' e'
  · cases p <;> first | exact absurd rfl o | exact Rd.imp f _ _ h
theorem RdT.of {t : Nat} {S : Sto} {A B : Nat → Prop} {p : P} {d : D} (h : Rd t S B p d) : RdT t S A B p d := by
  cases p <;> first | exact h | (unfold Rd at h; exact h.elim)
theorem RdT.rd {t : Nat} {S : Sto} {A B : Nat → Prop} {p : P} {d : D} (h : RdT t S A B p d) (n : p.isOwn = false) : Rd t S B p d := by
  cases p <;> first | exact h | cases n
theorem Rds.mk {t : Nat} {S : Sto} {A : Nat → Prop} : ∀ {l : List P} {ds : List D}, ds.length = l.length → (∀ (j : Nat) (p : P), l[j]? = some p → ∃ d, ds[j]? = some d ∧ Rd t S A p d) → Rds t S A l ds
  | [], [], _, _ => Rds.nil
  | [], _ :: _, h, _ => by simp at h
  | _ :: _, [], h, _ => by simp at h
  | p :: l, d :: ds, h, q => by
    obtain ⟨d', e, r⟩ := q 0 p rfl
    simp at e
    subst e
    exact Rds.cons r (Rds.mk (by simpa using h) fun j p e => q (j + 1) p e)
theorem RdT.thaw {t : Nat} {S : Sto} {A B : Nat → Prop} (hb : ∀ n, B n → A n) {p : P} {d : D} (h : RdT t S A B p d) : Rd t S A p.thaw d := by
  cases p with
  | own l =>
    obtain ⟨n, ds, e, a, g, q⟩ := h
    show Rd t S A (.lst l) d
    unfold Rd
    exact ⟨n, ds, e, a, g, Rds.imp (fun n o b e => ⟨hb n b, e⟩) _ _ q⟩
  | ownd l =>
    obtain ⟨n, ds, e, a, g, q⟩ := h
    show Rd t S A (.dct l) d
    unfold Rd
    exact ⟨n, ds, e, a, g, Rds.imp (fun n o b e => ⟨hb n b, e⟩) _ _ q⟩
  | ow2 l =>
    obtain ⟨n, ds, e, a, g, q1, q2⟩ := h
    show Rd t S A (.lst l) d
    unfold Rd
    refine ⟨n, ds, e, a, g, Rds.mk q1 fun j p e => ?_⟩
    obtain ⟨m, lj, es, rfl, h2, h3, h4, h5⟩ := q2 j p e
    refine ⟨_, h2, ?_⟩
    unfold Rd
    exact ⟨m, es, rfl, h3, h4, Rds.imp (fun n o b e => ⟨hb n b, e⟩) _ _ h5⟩
  | _ => exact Rd.imp (fun n o b e => ⟨hb n b, e⟩) _ _ h
/-! ### the tape, what stays -/
structure TpOk (t s : Nat) (ns : List Int) (S : Sto) (τ : Tau) : Prop where
  tape : S[t]? = some (.lst [.ref s, .int τ.pl, .int τ.nx, .int τ.tot])
  src : S[s]? = some (.lst (τ.ns.map D.int))
  pos : 0 ≤ τ.pl
  ne : t ≠ s
theorem TpOk.lt {t s : Nat} {ns : List Int} {S : Sto} {τ : Tau} (h : TpOk t s ns S τ) : t < S.length := lst_lt h.tape
/-- the store has grown, the tape alone may be written -/
structure Fr (t : Nat) (S S' : Sto) : Prop where
  len : S.length ≤ S'.length
  old : ∀ n, n < S.length → n ≠ t → S'[n]? = S[n]?
theorem Fr.refl {t : Nat} {S : Sto} : Fr t S S := ⟨Nat.le_refl _, fun _ _ _ => rfl⟩
theorem Fr.trans {t : Nat} {S S' S2 : Sto} (h : Fr t S S') (g : Fr t S' S2) : Fr t S S2 := ⟨Nat.le_trans h.len g.len, fun n a b => by
  rw [g.old n (Nat.lt_of_lt_of_le a h.len) b, h.old n a b]⟩
theorem Fr.app {t : Nat} (S T : Sto) : Fr t S (S ++ T) := ⟨by simp, fun n a _ => List.getElem?_append_left a⟩
theorem Fr.get {t : Nat} {S S' : Sto} (h : Fr t S S') {n : Nat} {o : O} (ne : n ≠ t) (e : S[n]? = some o) : S'[n]? = some o := by
  rw [h.old n (lst_lt e) ne, e]
theorem TpOk.app {t s : Nat} {ns : List Int} {S : Sto} {τ : Tau} (h : TpOk t s ns S τ) (T : Sto) : TpOk t s ns (S ++ T) τ := ⟨get_old h.tape, get_old h.src, h.pos, h.ne⟩
/-- what may be met -/
structure Adm (t : Nat) (A B : Nat → Prop) (S : Sto) : Prop where
  new : ∀ n, S.length ≤ n → B n
  sub : ∀ n, B n → A n
  tape : ¬ A t
theorem Adm.fr {t : Nat} {A B : Nat → Prop} {S S' : Sto} (h : Adm t A B S) (f : S.length ≤ S'.length) : Adm t A B S' := ⟨fun n a => h.new n (Nat.le_trans f a), h.sub, h.tape⟩
section
variable {t : Nat} {S S' : Sto} {A B : Nat → Prop}
theorem Fr.rd (f : Fr t S S') (nt : ¬ B t) {p : P} {d : D} (h : Rd t S B p d) : Rd t S' B p d := Rd.imp (fun n o b e => ⟨b, f.get (fun z => nt (z ▸ b)) e⟩) _ _ h
theorem Fr.rds (f : Fr t S S') (nt : ¬ B t) {p : List P} {d : List D} (h : Rds t S B p d) : Rds t S' B p d := Rds.imp (fun n o b e => ⟨b, f.get (fun z => nt (z ▸ b)) e⟩) _ _ h
theorem Adm.nt (a : Adm t A B S) : ¬ B t := fun h => a.tape (a.sub t h)
theorem Fr.rdt (f : Fr t S S') (a : Adm t A B S) {p : P} {d : D} (h : RdT t S A B p d) : RdT t S' A B p d :=
  h.map' (fun _ n ob _ x e => ⟨x, f.get (fun z => a.tape (z ▸ x)) e⟩) (fun n ob b e => ⟨b, f.get (fun z => a.nt (z ▸ b)) e⟩)
end
/-- the variables -/
structure RelE (t : Nat) (A B : Nat → Prop) (S : Sto) (env : Ev) (pe : PE) : Prop where
  len : env.length = pe.length
  slot : ∀ (i : Nat) (p : P), pe[i]? = some (some p) → ∃ d, env[i]? = some (some d) ∧ RdT t S A B p d
theorem RelE.fr {t : Nat} {S S' : Sto} {A B : Nat → Prop} {env : Ev} {pe : PE} (h : RelE t A B S env pe) (f : Fr t S S') (a : Adm t A B S) : RelE t A B S' env pe := ⟨h.len, fun i p e => by
  obtain ⟨d, h1, h2⟩ := h.slot i p e
  exact ⟨d, h1, f.rdt a h2⟩⟩
def RdX (t : Nat) (S : Sto) (A : Nat → Prop) (x : XP) (e : Exn) : Prop := e.cls = x.cls ∧ match x.args, e.args with
  | none, none => True
  | some fs, some gs => gs.map (·.1) = fs.map (·.1) ∧ Rds t S A (fs.map (·.2)) (gs.map (·.2))
  | _, _ => False
def RR {α β : Type} (t : Nat) (rel : Sto → α → β → Prop) (A : Nat → Prop) (S : Sto) : RP α → R β → Prop
  | .ok p, .ok d => rel S p d
  | .ex x, .ex e => RdX t S A x e
  | _, _ => False
section
variable (t s : Nat) (ns : List Int) {α β γ δ : Type}
/-- one run -/
def Sim1 (rel : Sto → α → β → Prop) (B : Nat → Prop) (S : Sto) (x : Ans β) (y : AP α) : Prop := ∀ r τ', y = some (r, τ') → ∃ r' S', x = some (r', S') ∧ Fr t S S' ∧ TpOk t s ns S' τ' ∧ RR t rel B S' r r'
def SimG (rel : (A B : Nat → Prop) → Sto → α → β → Prop) (f : Ev → Sto → Ans β) (g : PE → Tau → AP α) : Prop := ∀ A B S env pe τ, Adm t A B S → TpOk t s ns S τ → RelE t A B S env pe → Sim1 t s ns (rel A B) B S (f env S) (g pe τ)
abbrev SimE (f : Ev → Sto → Ans D) (g : PE → Tau → AP P) : Prop := SimG t s ns (fun A B S p d => RdT t S A B p d) f g
abbrev SimT (f : Ev → Sto → Ans Bool) (g : PE → Tau → AP Bool) : Prop := SimG t s ns (fun _ _ _ a b => a = b) f g
/-- lists of values: on top of each an own list may stand -/
def RdTs (t : Nat) (S : Sto) (A B : Nat → Prop) : List P → List D → Prop
  | [], ds => ds = []
  | p :: ps, ds => ∃ d r, ds = d :: r ∧ RdT t S A B p d ∧ RdTs t S A B ps r
abbrev SimA (f : Ev → Sto → Ans (List D)) (g : PE → Tau → AP (List P)) : Prop := SimG t s ns (fun A B S p d => RdTs t S A B p d) f g
/-- a value of a new list -/
def RdF (t : Nat) (S0 : Sto) (B : Nat → Prop) (S : Sto) (p : P) (d : D) : Prop := ∃ l n ds, p = .lst l ∧ d = .ref n ∧ S0.length ≤ n ∧ S[n]? = some (.lst ds) ∧ Rds t S (fun m => B m ∧ m ≠ n) l ds
def SimF (f : Ev → Sto → Ans D) (g : PE → Tau → AP P) : Prop := ∀ A B S env pe τ, Adm t A B S → TpOk t s ns S τ → RelE t A B S env pe → Sim1 t s ns (RdF t S B) B S (f env S) (g pe τ)
end
section
variable {t s : Nat} {ns : List Int} {α β γ δ : Type} {S S' S2 : Sto} {A B : Nat → Prop}
theorem Sim1.bind {rel : Sto → α → β → Prop} {rel2 : Sto → γ → δ → Prop} {x : Ans β} {y : AP α} {k : β → Sto → Ans δ} {k2 : α → Tau → AP γ} (h : Sim1 t s ns rel B S x y)
    (hk : ∀ a b S' τ', Fr t S S' → TpOk t s ns S' τ' → rel S' a b → Sim1 t s ns rel2 B S' (k b S') (k2 a τ')) : Sim1 t s ns rel2 B S (bindR x k) (bindV y k2) := fun r τ' e => by
  cases hy : y with
  | none => rw [hy] at e; cases e
  | some q =>
    obtain ⟨r1, τ1⟩ := q
    obtain ⟨r1', S1, e1, f1, t1, q1⟩ := h r1 τ1 hy
    rw [hy] at e
    cases r1 with
    | ex z =>
      cases e
      cases r1' with
      | ok _ => exact q1.elim
      | ex z' => exact ⟨.ex z', S1, by rw [e1]; rfl, f1, t1, q1⟩
    | ok a =>
      cases r1' with
      | ex _ => exact q1.elim
      | ok b =>
        obtain ⟨r2, S2, e2, f2, t2, q2⟩ := hk a b S1 τ1 f1 t1 q1 r τ' e
        exact ⟨r2, S2, by rw [e1]; exact e2, f1.trans f2, t2, q2⟩
theorem Sim1.ret {rel : Sto → α → β → Prop} {a : α} {b : β} {τ : Tau} (h : TpOk t s ns S τ) (r : rel S a b) : Sim1 t s ns rel B S (some (.ok b, S)) (some (.ok a, τ)) := fun _ _ e => by
  cases e
  exact ⟨_, S, rfl, Fr.refl, h, r⟩
theorem Sim1.none {rel : Sto → α → β → Prop} {x : Ans β} : Sim1 t s ns rel B S x (none : AP α) := fun _ _ e => by cases e
theorem Sim1.imp {rel rel2 : Sto → α → β → Prop} {x : Ans β} {y : AP α} (h : Sim1 t s ns rel B S x y) (w : ∀ S' a b, S.length ≤ S'.length → rel S' a b → rel2 S' a b) : Sim1 t s ns rel2 B S x y := fun r τ' e => by
  obtain ⟨r', S', h1, h2, h3, h4⟩ := h r τ' e
  refine ⟨r', S', h1, h2, h3, ?_⟩
  cases r <;> cases r' <;> first | exact h4 | exact w _ _ _ h2.len h4
theorem RdF.rd {S0 : Sto} {p : P} {d : D} (a : Adm t A B S0) (h : RdF t S0 B S p d) : Rd t S B p d := by
  obtain ⟨l, n, ds, rfl, rfl, g, e, q⟩ := h
  unfold Rd
  exact ⟨n, ds, rfl, a.new n g, e, Rds.imp (fun n o b e => ⟨b.1, e⟩) _ _ q⟩
theorem SimF.e {f : Ev → Sto → Ans D} {g : PE → Tau → AP P} (h : SimF t s ns f g) : SimE t s ns f g := fun A B S env pe τ a T r => (h A B S env pe τ a T r).imp fun _ _ _ l q => .of (q.rd a)
theorem RdTs.fr (f : Fr t S S') (a : Adm t A B S) : ∀ {ps : List P} {ds : List D}, RdTs t S A B ps ds → RdTs t S' A B ps ds
  | [], _, h => h
  | p :: ps, _, ⟨d, r, e, h1, h2⟩ => ⟨d, r, e, f.rdt a h1, RdTs.fr f a h2⟩
theorem RdTs.of (ps : List P) : ∀ {ds : List D}, (ps.any P.isOwn = false) → RdTs t S A B ps ds → Rds t S B ps ds := by
  induction ps with
  | nil => exact fun {ds} _ h => by cases h; exact Rds.nil
  | cons p ps ih =>
    rintro _ n ⟨d, r, rfl, h1, h2⟩
    rw [List.any_cons, Bool.or_eq_false_iff] at n
    exact Rds.cons (h1.rd n.1) (ih n.2 h2)
theorem RdTs.thaw (hb : ∀ n, B n → A n) : ∀ {ps : List P} {ds : List D}, RdTs t S A B ps ds → Rds t S A (ps.map P.thaw) ds
  | [], _, h => by cases h; exact Rds.nil
  | p :: ps, _, ⟨d, r, e, h1, h2⟩ => by subst e; exact Rds.cons (h1.thaw hb) (RdTs.thaw hb h2)
end
/-! ### the computations -/
def vVar (i : Nat) : PE → Tau → AP P := fun pe τ => match pe[i]? with
  | some (some p) => some (.ok p, τ)
  | _ => none
def vC (p : P) : PE → Tau → AP P := fun _ τ => some (.ok p, τ)
def okV {α : Type} (x : Option α) (τ : Tau) : AP α := match x with
  | none => none
  | some a => some (.ok a, τ)
def vOp (h : P → P → Option P) (fa fb : PE → Tau → AP P) : PE → Tau → AP P := fun pe τ => bindV (fa pe τ) fun a τ1 => bindV (fb pe τ1) fun b τ2 => okV (h a b) τ2
def vUn (h : P → Option P) (fa : PE → Tau → AP P) : PE → Tau → AP P := fun pe τ => bindV (fa pe τ) fun a τ1 => okV (h a) τ1
def vNil : PE → Tau → AP (List P) := fun _ τ => some (.ok [], τ)
def vCons (fa : PE → Tau → AP P) (fr : PE → Tau → AP (List P)) : PE → Tau → AP (List P) := fun pe τ => bindV (fa pe τ) fun a τ1 => bindV (fr pe τ1) fun r τ2 => some (.ok (a :: r), τ2)
def vCB (h : List P → Option P) (fs : PE → Tau → AP (List P)) : PE → Tau → AP P := fun pe τ => bindV (fs pe τ) fun ds τ1 => okV (h ds) τ1
/-- the items of a list, a tuple -/
def items : P → Option (List P)
  | .tup l => some l
  | .lst l => some l
  | .own l => some l
  | _ => none
def truP : P → Option Bool
  | .non => some false
  | .bl b => some b
  | .int i => some (i != 0)
  | .str x => if x.length ≤ sizeLine then some ((x.length : Int) != 0) else none
  | .tup l => some (!l.isEmpty)
  | .lst l => some (!l.isEmpty)
  | .own l => some (!l.isEmpty)
  | .dct _ => none
  | .ownd _ => none
  | .ow2 _ => none
  | .rot _ => none
  | .scr l => some (!l.isEmpty)
  | .exn _ _ => none
  | .tape => none
def vTru (fa : PE → Tau → AP P) : PE → Tau → AP Bool := fun pe τ => bindV (fa pe τ) fun a τ1 => okV (truP a) τ1
def vAnd (fa fb : PE → Tau → AP Bool) : PE → Tau → AP Bool := fun pe τ => bindV (fa pe τ) fun a τ1 => if a = true then fb pe τ1 else some (.ok false, τ1)
def vOr (fa fb : PE → Tau → AP Bool) : PE → Tau → AP Bool := fun pe τ => bindV (fa pe τ) fun a τ1 => if a = true then some (.ok true, τ1) else fb pe τ1
def vNot (fa : PE → Tau → AP Bool) : PE → Tau → AP Bool := fun pe τ => bindV (fa pe τ) fun a τ1 => some (.ok (!a), τ1)
def vAndV (fa fb : PE → Tau → AP P) : PE → Tau → AP P := fun pe τ => bindV (fa pe τ) fun a τ1 => bindV (okV (truP a) τ1) fun c τ1 => if c = true then fb pe τ1 else some (.ok a, τ1)
def vOrV (fa fb : PE → Tau → AP P) : PE → Tau → AP P := fun pe τ => bindV (fa pe τ) fun a τ1 => bindV (okV (truP a) τ1) fun c τ1 => if c = true then some (.ok a, τ1) else fb pe τ1
def vNotV (fa : PE → Tau → AP P) : PE → Tau → AP P := fun pe τ => bindV (fa pe τ) fun a τ1 => bindV (okV (truP a) τ1) fun c τ1 => some (.ok (.bl (!c)), τ1)
def vIf (fc : PE → Tau → AP Bool) (fa fb : PE → Tau → AP P) : PE → Tau → AP P := fun pe τ => bindV (fc pe τ) fun c τ1 => if c = true then fa pe τ1 else fb pe τ1
def pBl : P → Option Bool
  | .bl b => some b
  | _ => none
def vBl (fa : PE → Tau → AP P) : PE → Tau → AP Bool := fun pe τ => bindV (fa pe τ) fun a τ1 => okV (pBl a) τ1
/-! ### the operations -/
section
variable (t : Nat)
/-- an operation that reads; what it gives is met by the operands -/
def OpV (g : D → D → Sto → Option (D × Sto)) (h : P → P → Option P) : Prop := ∀ A B S p q r a b, Adm t A B S → RdT t S A B p a → RdT t S A B q b → h p q = some r → ∃ d T, g a b S = some (d, S ++ T) ∧ Rd t (S ++ T) B r d
/-- one that makes a new list -/
def OpVF (g : D → D → Sto → Option (D × Sto)) (h : P → P → Option P) : Prop := ∀ A B S p q l a b, Adm t A B S → RdT t S A B p a → RdT t S A B q b → h p q = some (.lst l) → ∃ ds, g a b S = some (.ref S.length, S ++ [.lst ds]) ∧ Rds t S B l ds
def CallV (g : List D → Sto → Option (D × Sto)) (h : List P → Option P) : Prop := ∀ A B S ps r ds, Adm t A B S → RdTs t S A B ps ds → h ps = some r → ∃ d T, g ds S = some (d, S ++ T) ∧ Rd t (S ++ T) B r d
def CallVF (g : List D → Sto → Option (D × Sto)) (h : List P → Option P) : Prop := ∀ A B S ps l es, Adm t A B S → RdTs t S A B ps es → h ps = some (.lst l) → ∃ ds, g es S = some (.ref S.length, S ++ [.lst ds]) ∧ Rds t S B l ds
/-- what it gives is a list, if anything -/
def Lsty {α : Type} (h : α → Option P) : Prop := ∀ a r, h a = some r → ∃ l, r = .lst l
end
section
variable {t s : Nat} {ns : List Int} {fa fb : Ev → Sto → Ans D} {ga gb : PE → Tau → AP P} {fs : Ev → Sto → Ans (List D)} {gs : PE → Tau → AP (List P)}
theorem Rds.freshen {S : Sto} {B : Nat → Prop} {l : List P} {ds : List D} (h : Rds t S B l ds) (T : Sto) : Rds t (S ++ T) (fun m => B m ∧ m ≠ S.length) l ds :=
  Rds.imp (fun n o b e => ⟨⟨b, by have := lst_lt e; omega⟩, get_old e⟩) _ _ h
theorem v_var (i : Nat) : SimE t s ns (dVar i) (vVar i) := fun A B S env pe τ a T r => by
  unfold vVar dVar
  cases h : pe[i]? with
  | none => exact Sim1.none
  | some q =>
    cases q with
    | none => exact Sim1.none
    | some p =>
      obtain ⟨d, h1, h2⟩ := r.slot i p h
      rw [h1]
      exact Sim1.ret T h2
theorem v_c {p : P} {d : D} (h : ∀ S B, Rd t S B p d) : SimE t s ns (dC d) (vC p) := fun A B S env pe τ a T r => Sim1.ret T (.of (h S B))
theorem v_op {g : D → D → Sto → Option (D × Sto)} {h : P → P → Option P} (o : OpV t g h) (ha : SimE t s ns fa ga) (hb : SimE t s ns fb gb) : SimE t s ns (dOp g fa fb) (vOp h ga gb) := fun A B S env pe τ a T r =>
  (ha A B S env pe τ a T r).bind fun x y S1 τ1 f1 T1 q1 => (hb A B S1 env pe τ1 (a.fr f1.len) T1 (r.fr f1 a)).bind fun x2 y2 S2 τ2 f2 T2 q2 => fun r τ' e => by
    cases hh : h x x2 with
    | none => rw [hh] at e; cases e
    | some p =>
      rw [hh] at e
      cases e
      obtain ⟨d, T, e1, e2⟩ := o A B S2 x x2 p y y2 ((a.fr f1.len).fr f2.len) (f2.rdt (a.fr f1.len) q1) q2 hh
      exact ⟨.ok d, S2 ++ T, by rw [e1]; rfl, Fr.app _ _, T2.app T, .of e2⟩
theorem v_opF {g : D → D → Sto → Option (D × Sto)} {h : P → P → Option P} (o : OpVF t g h) (lo : ∀ a, Lsty (h a)) (ha : SimE t s ns fa ga) (hb : SimE t s ns fb gb) : SimF t s ns (dOp g fa fb) (vOp h ga gb) := fun A B S env pe τ a T r =>
  (ha A B S env pe τ a T r).bind fun x y S1 τ1 f1 T1 q1 => (hb A B S1 env pe τ1 (a.fr f1.len) T1 (r.fr f1 a)).bind fun x2 y2 S2 τ2 f2 T2 q2 => fun r τ' e => by
    cases hh : h x x2 with
    | none => rw [hh] at e; cases e
    | some p =>
      rw [hh] at e
      cases e
      obtain ⟨l, rfl⟩ := lo x x2 p hh
      obtain ⟨ds, e1, e2⟩ := o A B S2 x x2 l y y2 ((a.fr f1.len).fr f2.len) (f2.rdt (a.fr f1.len) q1) q2 hh
      exact ⟨.ok (.ref S2.length), S2 ++ [.lst ds], by rw [e1]; rfl, Fr.app _ _, T2.app _, l, S2.length, ds, rfl, rfl, Nat.le_trans f1.len f2.len, get_last _ _, e2.freshen _⟩
theorem va_nil : SimA t s ns dNil vNil := fun A B S env pe τ a T r => Sim1.ret T rfl
theorem va_cons (ha : SimE t s ns fa ga) (hs : SimA t s ns fs gs) : SimA t s ns (dCons fa fs) (vCons ga gs) := fun A B S env pe τ a T r =>
  (ha A B S env pe τ a T r).bind fun x y S1 τ1 f1 T1 q1 => (hs A B S1 env pe τ1 (a.fr f1.len) T1 (r.fr f1 a)).bind fun x2 y2 S2 τ2 f2 T2 q2 => Sim1.ret T2 ⟨y, y2, rfl, f2.rdt (a.fr f1.len) q1, q2⟩
theorem v_cb {g : List D → Sto → Option (D × Sto)} {h : List P → Option P} (o : CallV t g h) (hs : SimA t s ns fs gs) : SimE t s ns (dCB g fs) (vCB h gs) := fun A B S env pe τ a T r =>
  (hs A B S env pe τ a T r).bind fun x y S1 τ1 f1 T1 q1 => fun r τ' e => by
    cases hh : h x with
    | none => rw [hh] at e; cases e
    | some p =>
      rw [hh] at e
      cases e
      obtain ⟨d, T, e1, e2⟩ := o A B S1 x p y (a.fr f1.len) q1 hh
      exact ⟨.ok d, S1 ++ T, by rw [e1]; rfl, Fr.app _ _, T1.app T, .of e2⟩
theorem v_cbF {g : List D → Sto → Option (D × Sto)} {h : List P → Option P} (o : CallVF t g h) (lo : Lsty h) (hs : SimA t s ns fs gs) : SimF t s ns (dCB g fs) (vCB h gs) := fun A B S env pe τ a T r =>
  (hs A B S env pe τ a T r).bind fun x y S1 τ1 f1 T1 q1 => fun r τ' e => by
    cases hh : h x with
    | none => rw [hh] at e; cases e
    | some p =>
      rw [hh] at e
      cases e
      obtain ⟨l, rfl⟩ := lo x p hh
      obtain ⟨ds, e1, e2⟩ := o A B S1 x l y (a.fr f1.len) q1 hh
      exact ⟨.ok (.ref S1.length), S1 ++ [.lst ds], by rw [e1]; rfl, Fr.app _ _, T1.app _, l, S1.length, ds, rfl, rfl, f1.len, get_last _ _, e2.freshen _⟩
theorem RdT.items {S : Sto} {A B : Nat → Prop} {p : P} {d : D} {l : List P} (h : RdT t S A B p d) (e : items p = some l) : ∃ ds, seqOf d S = some ds ∧ Rds t S B l ds := by
  cases p <;> first | cases e | skip
  · unfold RdT Rd at h
    obtain ⟨ds, rfl, q⟩ := h
    exact ⟨ds, rfl, q⟩
  · unfold RdT Rd at h
    obtain ⟨n, ds, rfl, _, g, q⟩ := h
    exact ⟨ds, by simp [seqOf, g], q⟩
  · obtain ⟨n, ds, rfl, _, g, q⟩ := h
    exact ⟨ds, by simp [seqOf, g], q⟩
theorem Rds.isEmpty {S : Sto} {B : Nat → Prop} {l : List P} {ds : List D} (h : Rds t S B l ds) : ds.isEmpty = l.isEmpty := by
  have := h.len
  cases l <;> cases ds <;> simp_all
theorem RdT.tru {S : Sto} {A B : Nat → Prop} {p : P} {d : D} {b : Bool} (h : RdT t S A B p d) (e : truP p = some b) : truD d S = some b := by
  cases p with
  | non => unfold RdT Rd at h; subst h; exact e
  | bl _ => unfold RdT Rd at h; subst h; exact e
  | int _ => unfold RdT Rd at h; subst h; exact e
  | str _ => unfold RdT Rd at h; subst h; exact e
  | tape => cases e
  | dct _ => cases e
  | ownd _ => cases e
  | ow2 _ => cases e
  | rot _ => cases e
  | scr l =>
    cases e
    unfold RdT Rd at h
    obtain ⟨n, rfl, _, g⟩ := h
    rw [E_truD_ref]
    simp [seqOf, g]
  | exn _ _ => cases e
  | tup l =>
    obtain ⟨ds, q1, q2⟩ := RdT.items h rfl
    cases e
    unfold RdT Rd at h
    obtain ⟨es, rfl, _⟩ := h
    cases q1
    show some (!ds.isEmpty) = some _
    rw [q2.isEmpty]
  | lst l =>
    obtain ⟨ds, q1, q2⟩ := RdT.items h rfl
    cases e
    unfold RdT Rd at h
    obtain ⟨n, es, rfl, _⟩ := h
    rw [E_truD_ref, q1, Option.map_some, q2.isEmpty]
  | own l =>
    obtain ⟨ds, q1, q2⟩ := RdT.items h rfl
    cases e
    obtain ⟨n, es, rfl, _⟩ := h
    rw [E_truD_ref, q1, Option.map_some, q2.isEmpty]
theorem Sim1.tru {S : Sto} {A B : Nat → Prop} {p : P} {d : D} {τ : Tau} (T : TpOk t s ns S τ) (h : RdT t S A B p d) : Sim1 t s ns (fun _ (a b : Bool) => a = b) B S (okT (truD d S) S) (okV (truP p) τ) := by
  cases e : truP p with
  | none => exact Sim1.none
  | some b => rw [h.tru e]; exact Sim1.ret T rfl
theorem vt_of (ha : SimE t s ns fa ga) : SimT t s ns (dTru fa) (vTru ga) := fun A B S env pe τ a T r => (ha A B S env pe τ a T r).bind fun x y S1 τ1 f1 T1 q1 => Sim1.tru T1 q1
theorem vt_bl (ha : SimE t s ns fa ga) : SimT t s ns (dBl fa) (vBl ga) := fun A B S env pe τ a T r => (ha A B S env pe τ a T r).bind fun x y S1 τ1 f1 T1 q1 => by
  cases x with
  | bl b =>
    unfold RdT Rd at q1
    subst q1
    exact Sim1.ret T1 rfl
  | _ => exact Sim1.none
variable {ha' : Ev → Sto → Ans Bool} {fc fd : Ev → Sto → Ans Bool} {gc gd : PE → Tau → AP Bool}
theorem vt_and (ha : SimT t s ns fc gc) (hb : SimT t s ns fd gd) : SimT t s ns (dAnd fc fd) (vAnd gc gd) := fun A B S env pe τ a T r => (ha A B S env pe τ a T r).bind fun x y S1 τ1 f1 T1 q1 => by
  subst q1
  cases x with
  | true => exact hb A B S1 env pe τ1 (a.fr f1.len) T1 (r.fr f1 a)
  | false => exact Sim1.ret T1 rfl
theorem vt_or (ha : SimT t s ns fc gc) (hb : SimT t s ns fd gd) : SimT t s ns (dOr fc fd) (vOr gc gd) := fun A B S env pe τ a T r => (ha A B S env pe τ a T r).bind fun x y S1 τ1 f1 T1 q1 => by
  subst q1
  cases x with
  | false => exact hb A B S1 env pe τ1 (a.fr f1.len) T1 (r.fr f1 a)
  | true => exact Sim1.ret T1 rfl
theorem vt_not (ha : SimT t s ns fc gc) : SimT t s ns (dNot fc) (vNot gc) := fun A B S env pe τ a T r => (ha A B S env pe τ a T r).bind fun x y S1 τ1 f1 T1 q1 => by
  subst q1
  exact Sim1.ret T1 rfl
theorem vt_true : SimT t s ns dTrue (fun _ τ => some (.ok true, τ)) := fun A B S env pe τ a T r => Sim1.ret T rfl
theorem v_and (ha : SimE t s ns fa ga) (hb : SimE t s ns fb gb) : SimE t s ns (dAndV fa fb) (vAndV ga gb) := fun A B S env pe τ a T r => (ha A B S env pe τ a T r).bind fun x y S1 τ1 f1 T1 q1 => by
  refine (Sim1.tru T1 q1).bind fun c c' S2 τ2 f2 T2 q2 => ?_
  subst q2
  cases c with
  | true => exact hb A B S2 env pe τ2 ((a.fr f1.len).fr f2.len) T2 ((r.fr f1 a).fr f2 (a.fr f1.len))
  | false => exact Sim1.ret T2 (f2.rdt (a.fr f1.len) q1)
/-! ### calls -/
abbrev MirV := List P → Tau → AP P
/-- the def F does G -/
def VOk (t s : Nat) (ns : List Int) (F : Mir) (G : MirV) : Prop := ∀ A S ds ps τ, Adm t A A S → Rds t S A ps ds → TpOk t s ns S τ → Sim1 t s ns (fun S p d => Rd t S A p d) A S (F ds S) (G ps τ)
/-- where an own list is given away for reading, the answer holds no list -/
def flatR : AP P → AP P
  | some (.ok p, τ) => if p.flat = true then some (.ok p, τ) else none
  | _ => none
def vCallP (G : MirV) (ps : List P) (τ : Tau) : AP P := if ps.any P.isOwn = true then flatR (G (ps.map P.thaw) τ) else G ps τ
def vCall (G : MirV) (gs : PE → Tau → AP (List P)) : PE → Tau → AP P := fun pe τ => bindV (gs pe τ) fun ps τ1 => vCallP G ps τ1
theorem callP {F : Mir} {G : MirV} {A B : Nat → Prop} {S : Sto} {ps : List P} {ds : List D} {τ : Tau} (o : VOk t s ns F G) (a : Adm t A B S) (h : RdTs t S A B ps ds) (T : TpOk t s ns S τ) : Sim1 t s ns (fun S p d => RdT t S A B p d) B S (F ds S) (vCallP G ps τ) := by
  unfold vCallP
  split
  · intro r τ' e
    cases hg : G (ps.map P.thaw) τ with
    | none => rw [hg] at e; cases e
    | some q =>
      obtain ⟨q, τ1⟩ := q
      rw [hg] at e
      cases q with
      | ex _ => cases e
      | ok p =>
        simp only [flatR] at e
        split at e
        · rename_i hf
          cases e
          obtain ⟨r', S', h1, h2, h3, h4⟩ := o A S ds _ τ ⟨fun n z => a.sub n (a.new n z), fun _ z => z, a.tape⟩ (h.thaw a.sub) T _ _ hg
          cases r' with
          | ex _ => exact h4.elim
          | ok d => exact ⟨.ok d, S', h1, h2, h3, RdT.of (Rd.flat p d hf h4)⟩
        · cases e
  · rename_i hn
    have hn : ps.any P.isOwn = false := by simpa using hn
    exact (o B S ds ps τ ⟨a.new, fun _ z => z, a.nt⟩ (RdTs.of ps hn h) T).imp fun _ _ _ _ q => RdT.of q
theorem v_call {F : Mir} {G : MirV} (o : VOk t s ns F G) (hs : SimA t s ns fs gs) : SimE t s ns (dCall F fs) (vCall G gs) := fun A B S env pe τ a T r =>
  (hs A B S env pe τ a T r).bind fun x y S1 τ1 f1 T1 q1 => callP o (a.fr f1.len) q1 T1
theorem RdTs.app {S : Sto} {A B : Nat → Prop} : ∀ {ps qs : List P} {ds es : List D}, RdTs t S A B ps ds → RdTs t S A B qs es → RdTs t S A B (ps ++ qs) (ds ++ es)
  | [], _, _, _, h, g => by cases h; exact g
  | p :: ps, _, _, _, ⟨d, r, e, h1, h2⟩, g => by subst e; exact ⟨d, _, rfl, h1, RdTs.app h2 g⟩
def vCallD (G : MirV) (dd : List P) (gs : PE → Tau → AP (List P)) : PE → Tau → AP P := fun pe τ => bindV (gs pe τ) fun ps τ1 => vCallP G (ps ++ dd) τ1
theorem RdTs.len {S : Sto} {A B : Nat → Prop} : ∀ {ps : List P} {ds : List D}, RdTs t S A B ps ds → ps.length = ds.length
  | [], _, h => by cases h; rfl
  | p :: ps, _, ⟨d, r, e, h1, h2⟩ => by subst e; simp [RdTs.len h2]
def vCallK (G : MirV) (n k : Nat) (gs gk : PE → Tau → AP (List P)) : PE → Tau → AP P := fun pe τ => bindV (gs pe τ) fun ps τ1 => bindV (gk pe τ1) fun qs τ2 => if ps.length = n ∧ qs.length = k then vCallP G (ps ++ qs) τ2 else none
theorem v_callK {F : Mir} {G : MirV} {n k : Nat} {fk : Ev → Sto → Ans (List D)} {gk : PE → Tau → AP (List P)} (o : VOk t s ns F G) (hs : SimA t s ns fs gs) (hk : SimA t s ns fk gk) : SimE t s ns (dCallK F n k fs fk) (vCallK G n k gs gk) := fun A B S env pe τ a T r =>
  (hs A B S env pe τ a T r).bind fun x y S1 τ1 f1 T1 q1 => (hk A B S1 env pe τ1 (a.fr f1.len) T1 (r.fr f1 a)).bind fun x2 y2 S2 τ2 f2 T2 q2 => by
    by_cases hc : x.length = n ∧ x2.length = k
    · have hc' : y.length = n ∧ y2.length = k := by rw [← q1.len, ← q2.len]; exact hc
      show Sim1 _ _ _ _ _ _ (if y.length = n ∧ y2.length = k then F (y ++ y2) S2 else none) (if x.length = n ∧ x2.length = k then vCallP G (x ++ x2) τ2 else none)
      rw [if_pos hc, if_pos hc']
      exact callP o ((a.fr f1.len).fr f2.len) ((q1.fr f2 (a.fr f1.len)).app q2) T2
    · show Sim1 _ _ _ _ _ _ _ (if x.length = n ∧ x2.length = k then vCallP G (x ++ x2) τ2 else none)
      rw [if_neg hc]
      exact Sim1.none
end
end VL
namespace VL
open PySem PySem.Spec PyProof.Rows L2 RT RZ DL
/-! ### statements -/
inductive OutP where
  | nx | rt (p : P) | bk | ct | ex (x : XP)
abbrev AnsV := Option (OutP × PE × Tau)
def bindSV {α : Type} (x : AP α) (pe : PE) (k : α → Tau → AnsV) : AnsV := match x with
  | none => none
  | some (.ex e, τ) => some (.ex e, pe, τ)
  | some (.ok a, τ) => k a τ
/-- who owns: a variable, a place in a variable's list of lists -/
inductive Ix where
  | v (i : Nat) | e (i j : Nat)
  deriving DecidableEq
instance : Coe Nat Ix := ⟨Ix.v⟩
abbrev Ow := Ix → Option Nat
def Av (A : Nat → Prop) (o : Ow) : Nat → Prop := fun n => A n ∧ ∀ i, o i ≠ some n
structure Rel (t b : Nat) (A : Nat → Prop) (o : Ow) (S : Sto) (env : Ev) (pe : PE) : Prop where
  len : env.length = pe.length
  slot : ∀ (i : Nat) (p : P), pe[i]? = some (some p) → ∃ d, env[i]? = some (some d) ∧ RdT t S A (Av A o) p d ∧ (p.isOwn = true → ∃ n, d = .ref n ∧ o i = some n)
  inj : ∀ i j n, o i = some n → o j = some n → i = j
  own : ∀ i n, o i = some n → A n ∧ b ≤ n ∧ n < S.length
  in2 : ∀ (i : Nat) (l : List P) (n : Nat) (ds : List D) (j m : Nat), pe[i]? = some (some (.ow2 l)) → env[i]? = some (some (.ref n)) → S[n]? = some (.lst ds) → ds[j]? = some (.ref m) → o (.e i j) = some m
structure AdmS (t s b : Nat) (A : Nat → Prop) (S : Sto) : Prop where
  bl : b ≤ S.length
  new : ∀ n, S.length ≤ n → A n
  tape : ¬ A t
  src : s < b
theorem Rel.e {t b : Nat} {A : Nat → Prop} {o : Ow} {S : Sto} {env : Ev} {pe : PE} (h : Rel t b A o S env pe) : RelE t A (Av A o) S env pe := ⟨h.len, fun i p e => by
  obtain ⟨d, h1, h2, _⟩ := h.slot i p e
  exact ⟨d, h1, h2⟩⟩
theorem Rel.adm {t s b : Nat} {A : Nat → Prop} {o : Ow} {S : Sto} {env : Ev} {pe : PE} (h : Rel t b A o S env pe) (a : AdmS t s b A S) : Adm t A (Av A o) S := ⟨fun n g => ⟨a.new n g, fun i e => by have := (h.own i n e).2.2; omega⟩, fun n g => g.1, a.tape⟩
/-- the store goes on: what nobody owned stays, what is owned is old or new -/
structure Stp (t : Nat) (S : Sto) (o : Ow) (S' : Sto) (o' : Ow) : Prop where
  len : S.length ≤ S'.length
  old : ∀ n, n < S.length → n ≠ t → (∀ i, o i ≠ some n) → S'[n]? = S[n]?
  own : ∀ i n, o' i = some n → (∃ j, o j = some n) ∨ S.length ≤ n
theorem Stp.refl {t : Nat} {S : Sto} {o : Ow} : Stp t S o S o := ⟨Nat.le_refl _, fun _ _ _ _ => rfl, fun i n h => .inl ⟨i, h⟩⟩
theorem Stp.trans {t : Nat} {S S' S2 : Sto} {o o' o2 : Ow} (h : Stp t S o S' o') (g : Stp t S' o' S2 o2) : Stp t S o S2 o2 := ⟨Nat.le_trans h.len g.len, fun n a b c => by
  rw [g.old n (Nat.lt_of_lt_of_le a h.len) b fun i e => ?_, h.old n a b c]
  rcases h.own i n e with ⟨j, e⟩ | e
  · exact c j e
  · omega, fun i n e => by
  rcases g.own i n e with ⟨j, e⟩ | e
  · exact h.own j n e
  · exact .inr (Nat.le_trans h.len e)⟩
theorem Fr.stp {t : Nat} {S S' : Sto} (h : Fr t S S') (o : Ow) : Stp t S o S' o := ⟨h.len, fun n a b _ => h.old n a b, fun i n e => .inl ⟨i, e⟩⟩
theorem Rel.fr {t s b : Nat} {A : Nat → Prop} {o : Ow} {S S' : Sto} {env : Ev} {pe : PE} (h : Rel t b A o S env pe) (a : AdmS t s b A S) (f : Fr t S S') : Rel t b A o S' env pe := ⟨h.len, fun i p e => by
  obtain ⟨d, h1, h2, h3⟩ := h.slot i p e
  exact ⟨d, h1, f.rdt (h.adm a) h2, h3⟩, h.inj, fun i n e => (let ⟨x, y, z⟩ := h.own i n e; ⟨x, y, Nat.lt_of_lt_of_le z f.len⟩), fun i l n ds j m e1 e2 e3 e4 => by
  obtain ⟨d, h1, h2, h3⟩ := h.slot i _ e1
  rw [e2] at h1
  cases h1
  obtain ⟨n', ds', k1, k2, k3, k4⟩ := h2
  cases k1
  have e5 := f.get (fun z => a.tape (z ▸ k2)) k3
  rw [e3] at e5
  cases e5
  exact h.in2 i l n ds j m e1 e2 k3 e4⟩
theorem AdmS.fr {t s b : Nat} {A : Nat → Prop} {S S' : Sto} (a : AdmS t s b A S) (f : S.length ≤ S'.length) : AdmS t s b A S' := ⟨Nat.le_trans a.bl f, fun n g => a.new n (Nat.le_trans f g), a.tape, a.src⟩
theorem Stp.imp {t : Nat} {A : Nat → Prop} {S S' : Sto} {o o' : Ow} (h : Stp t S o S' o') (nt : ¬ A t) (n : Nat) (ob : O) (a : Av A o n) (e : S[n]? = some ob) : Av A o' n ∧ S'[n]? = some ob := by
  have lt := lst_lt e
  refine ⟨⟨a.1, fun i z => ?_⟩, by rw [h.old n lt (fun z => nt (z ▸ a.1)) a.2, e]⟩
  rcases h.own i n z with ⟨j, z⟩ | z
  · exact a.2 j z
  · omega
theorem Stp.rd {t : Nat} {A : Nat → Prop} {S S' : Sto} {o o' : Ow} (h : Stp t S o S' o') (nt : ¬ A t) {p : P} {d : D} (q : Rd t S (Av A o) p d) : Rd t S' (Av A o') p d := Rd.imp (fun n ob a e => by
  have lt := lst_lt e
  refine ⟨⟨a.1, fun i z => ?_⟩, by rw [h.old n lt (fun z => nt (z ▸ a.1)) a.2, e]⟩
  rcases h.own i n z with ⟨j, z⟩ | z
  · exact a.2 j z
  · omega) _ _ q
theorem Stp.rds {t : Nat} {A : Nat → Prop} {S S' : Sto} {o o' : Ow} (h : Stp t S o S' o') (nt : ¬ A t) {p : List P} {d : List D} (q : Rds t S (Av A o) p d) : Rds t S' (Av A o') p d := Rds.imp (fun n ob a e => by
  have lt := lst_lt e
  refine ⟨⟨a.1, fun i z => ?_⟩, by rw [h.old n lt (fun z => nt (z ▸ a.1)) a.2, e]⟩
  rcases h.own i n z with ⟨j, z⟩ | z
  · exact a.2 j z
  · omega) _ _ q
def RO (t b : Nat) (A : Nat → Prop) (o : Ow) (S : Sto) (env : Ev) (pe : PE) : OutP → Out → Prop
  | .nx, .nx => Rel t b A o S env pe
  | .bk, .bk => Rel t b A o S env pe
  | .ct, .ct => Rel t b A o S env pe
  | .rt p, .rt d => Rd t S A p d ∧ Rel t b A o S env pe
  | .ex x, .ex e => RdX t S A x e ∧ Rel t b A o S env pe
  | _, _ => False
section
variable (t s : Nat) (ns : List Int)
def Sim2 (b : Nat) (A : Nat → Prop) (o : Ow) (S : Sto) (x : AnsS) (y : AnsV) : Prop := ∀ r pe' τ', y = some (r, pe', τ') → ∃ r' env' S' o', x = some (r', env', S') ∧ Stp t S o S' o' ∧ TpOk t s ns S' τ' ∧ RO t b A o' S' env' pe' r r'
def SimS (f : Ev → Sto → AnsS) (g : PE → Tau → AnsV) : Prop := ∀ b A o S env pe τ, AdmS t s b A S → TpOk t s ns S τ → Rel t b A o S env pe → Sim2 t s ns b A o S (f env S) (g pe τ)
end
section
variable {t s : Nat} {ns : List Int} {b : Nat} {A B : Nat → Prop} {o o' : Ow} {S S' : Sto} {env env' : Ev} {pe pe' : PE} {τ τ' : Tau} {x : AnsS} {y : AnsV}
theorem Sim2.none : Sim2 t s ns b A o S x (none : AnsV) := fun _ _ _ e => by cases e
theorem Sim2.ret {r : OutP} {r' : Out} (T : TpOk t s ns S τ) (q : RO t b A o S env pe r r') : Sim2 t s ns b A o S (some (r', env, S)) (some (r, pe, τ)) := fun _ _ _ e => by
  cases e
  exact ⟨r', env, S, o, rfl, Stp.refl, T, q⟩
theorem Sim2.stp (h : Sim2 t s ns b A o' S' x y) (f : Stp t S o S' o') : Sim2 t s ns b A o S x y := fun r pe' τ' e => by
  obtain ⟨r', env', S2, o2, h1, h2, h3⟩ := h r pe' τ' e
  exact ⟨r', env', S2, o2, h1, f.trans h2, h3⟩
theorem RdX.mono (hb : ∀ n, B n → A n) {z : XP} {e : Exn} (h : RdX t S B z e) : RdX t S A z e := by
  obtain ⟨h1, h2⟩ := h
  refine ⟨h1, ?_⟩
  split at h2
  · trivial
  · exact ⟨h2.1, Rds.imp (fun n o b e => ⟨hb n b, e⟩) _ _ h2.2⟩
  · exact h2
theorem Sim2.bind {α β : Type} {rel : Sto → α → β → Prop} {x : Ans β} {y : AP α} {k : β → Sto → AnsS} {k2 : α → Tau → AnsV} (r0 : Rel t b A o S env pe) (a0 : AdmS t s b A S) (h : Sim1 t s ns rel (Av A o) S x y)
    (hk : ∀ a c S' τ', Fr t S S' → TpOk t s ns S' τ' → rel S' a c → Sim2 t s ns b A o S' (k c S') (k2 a τ')) : Sim2 t s ns b A o S (bindS x env k) (bindSV y pe k2) := fun r pe' τ' e => by
  cases hy : y with
  | none => rw [hy] at e; cases e
  | some q =>
    obtain ⟨r1, τ1⟩ := q
    obtain ⟨r1', S1, e1, f1, t1, q1⟩ := h r1 τ1 hy
    rw [hy] at e
    cases r1 with
    | ex z =>
      cases e
      cases r1' with
      | ok _ => exact q1.elim
      | ex z' => exact ⟨.ex z', env, S1, o, by rw [e1]; rfl, f1.stp o, t1, RdX.mono (fun n a => a.1) q1, r0.fr a0 f1⟩
    | ok a =>
      cases r1' with
      | ex _ => exact q1.elim
      | ok c =>
        obtain ⟨r2, env2, S2, o2, e2, f2, q2⟩ := hk a c S1 τ1 f1 t1 q1 r pe' τ' e
        exact ⟨r2, env2, S2, o2, by rw [e1]; exact e2, (f1.stp o).trans f2, q2⟩
end
def vNext : PE → Tau → AnsV := fun pe τ => some (.nx, pe, τ)
def vBreak : PE → Tau → AnsV := fun pe τ => some (.bk, pe, τ)
def vCont : PE → Tau → AnsV := fun pe τ => some (.ct, pe, τ)
def vSeq (f g : PE → Tau → AnsV) : PE → Tau → AnsV := fun pe τ => match f pe τ with
  | some (.nx, pe1, τ1) => g pe1 τ1
  | x => x
mutual
def putP : Tg → P → PE → Option PE
  | .nm i, p, pe => if p.isOwn = true then none else some (pe.set i (some p))
  | .tp l, .tup ps, pe => putPs l ps pe
  | .tp _, _, _ => none
def putPs : List Tg → List P → PE → Option PE
  | [], [], pe => some pe
  | t :: ts, p :: ps, pe => match putP t p pe with
    | some pe1 => putPs ts ps pe1
    | none => none
  | _, _, _ => none
end
def vAsg (tg : Tg) (ge : PE → Tau → AP P) : PE → Tau → AnsV := fun pe τ => bindSV (ge pe τ) pe fun p τ1 => match putP tg p pe with
  | some pe1 => some (.nx, pe1, τ1)
  | none => none
/-- a variable gets a new list for its own -/
def vAsgO (i : Nat) (ge : PE → Tau → AP P) : PE → Tau → AnsV := fun pe τ => bindSV (ge pe τ) pe fun p τ1 => match p with
  | .lst l => some (.nx, pe.set i (some (.own l)), τ1)
  | _ => none
/-- from here on the variable's list is read alone -/
def thawAt (i : Nat) (pe : PE) : PE := match pe[i]? with
  | some (some p) => if p.isOwn = true then pe.set i (some p.thaw) else pe
  | _ => pe
def vThaw (i : Nat) (g : PE → Tau → AnsV) : PE → Tau → AnsV := fun pe τ => g (thawAt i pe) τ
def vExpr (ge : PE → Tau → AP P) : PE → Tau → AnsV := fun pe τ => bindSV (ge pe τ) pe fun _ τ1 => some (.nx, pe, τ1)
def vRet (ge : PE → Tau → AP P) : PE → Tau → AnsV := fun pe τ => bindSV (ge pe τ) pe fun p τ1 => some (.rt p.thaw, pe, τ1)
def vRetN : PE → Tau → AnsV := fun pe τ => some (.rt .non, pe, τ)
def vIfS (gc : PE → Tau → AP Bool) (f g : PE → Tau → AnsV) : PE → Tau → AnsV := fun pe τ => bindSV (gc pe τ) pe fun c τ1 => if c = true then f pe τ1 else g pe τ1
def whileV (gc : PE → Tau → AP Bool) (gb : PE → Tau → AnsV) : Nat → PE → Tau → AnsV
  | 0, _, _ => none
  | n + 1, pe, τ => bindSV (gc pe τ) pe fun c τ1 => if c = true then match gb pe τ1 with
      | some (.nx, pe2, τ2) => whileV gc gb n pe2 τ2
      | some (.ct, pe2, τ2) => whileV gc gb n pe2 τ2
      | some (.bk, pe2, τ2) => some (.nx, pe2, τ2)
      | x => x
    else some (.nx, pe, τ1)
def forV (tg : Tg) (gb : PE → Tau → AnsV) : List P → PE → Tau → AnsV
  | [], pe, τ => some (.nx, pe, τ)
  | x :: xs, pe, τ => match putP tg x pe with
      | none => none
      | some pe1 => match gb pe1 τ with
        | some (.nx, pe2, τ2) => forV tg gb xs pe2 τ2
        | some (.ct, pe2, τ2) => forV tg gb xs pe2 τ2
        | some (.bk, pe2, τ2) => some (.nx, pe2, τ2)
        | y => y
def vFor (gi : PE → Tau → AP (List P)) (tg : Tg) (gb : PE → Tau → AnsV) : PE → Tau → AnsV := fun pe τ => bindSV (gi pe τ) pe fun l τ1 => forV tg gb l pe τ1
/-- x.append(..) -/
def vAppend (i : Nat) (ge : PE → Tau → AP P) : PE → Tau → AnsV := fun pe τ => match pe[i]? with
  | some (some (.own _)) => bindSV (ge pe τ) pe fun p τ1 => if p.isOwn = true then none else match pe[i]? with
    | some (some (.own l)) => if l.length < sizeLine then some (.nx, pe.set i (some (.own (l ++ [p]))), τ1) else none
    | _ => none
  | _ => none
/-- x.pop() as a statement -/
def vPopS (i : Nat) : PE → Tau → AnsV := fun pe τ => match pe[i]? with
  | some (some (.own l)) => if l.length = 0 then none else some (.nx, pe.set i (some (.own l.dropLast)), τ)
  | _ => none
/-- x[..] = .. -/
def vSetI (i : Nat) (ge gi : PE → Tau → AP P) : PE → Tau → AnsV := fun pe τ => bindSV (ge pe τ) pe fun p τ1 => match pe[i]? with
  | some (some (.own _)) => bindSV (gi pe τ1) pe fun k τ2 => if p.isOwn = true then none else match pe[i]?, k with
    | some (some (.own l)), .int k => match ixN l.length k with
      | some j => some (.nx, pe.set i (some (.own (l.set j p))), τ2)
      | none => none
    | _, _ => none
  | _ => none
def vAug (i : Nat) (h : P → P → Option P) (ge : PE → Tau → AP P) : PE → Tau → AnsV := fun pe τ => match pe[i]? with
  | some (some x) => bindSV (ge pe τ) pe fun y τ1 => match h x y with
    | some z => if z.isOwn = true then none else some (.nx, pe.set i (some z), τ1)
    | none => none
  | _ => none
/-- a change of the variables' own lists -/
def setO (o : Ow) (i : Nat) (x : Option Nat) : Ow := fun j => if j = .v i then x else o j
section
variable {t s : Nat} {ns : List Int} {b : Nat} {A B : Nat → Prop} {o o' : Ow} {S S' : Sto} {env env' : Ev} {pe pe' : PE} {τ τ' : Tau} {f f2 : Ev → Sto → AnsS} {g g2 : PE → Tau → AnsV} {fe fi : Ev → Sto → Ans D} {ge gi : PE → Tau → AP P}
theorem setO_self {i : Nat} {x : Option Nat} : setO o i x (.v i) = x := if_pos rfl
theorem setO_ne {i : Nat} {j : Ix} {x : Option Nat} (h : j ≠ .v i) : setO o i x j = o j := if_neg h
theorem setO_nv {i j : Nat} {x : Option Nat} (h : j ≠ i) : setO o i x (.v j) = o (.v j) := if_neg fun z => h (Ix.v.inj z)
theorem setO_e {i j k : Nat} {x : Option Nat} : setO o i x (.e j k) = o (.e j k) := if_neg fun z => by cases z
theorem setO_stp {i : Nat} : Stp t S o S (setO o i none) := ⟨Nat.le_refl _, fun _ _ _ _ => rfl, fun j n e => by
  by_cases h : j = i
  · subst h; rw [setO_self] at e; cases e
  · rw [setO_ne h] at e; exact .inl ⟨j, e⟩⟩
theorem get_setS {α : Type} {l : List α} {i j : Nat} {x y : α} (h : (l.set i x)[j]? = some y) : (j = i ∧ x = y ∧ i < l.length) ∨ (j ≠ i ∧ l[j]? = some y) := by
  by_cases e : i = j
  · subst e
    have hl : i < l.length := by
      have := (List.getElem?_eq_some_iff.mp h).1
      simpa using this
    rw [List.getElem?_set_self hl] at h
    cases h
    exact .inl ⟨rfl, rfl, hl⟩
  · rw [List.getElem?_set_ne e] at h
    exact .inr ⟨fun z => e z.symm, h⟩
theorem Rel.holdsI (h : Rel t b A o S env pe) {i : Nat} {p : P} {d : D} {n : Nat} (e : pe[i]? = some (some p)) (e1 : env[i]? = some (some d)) (ow : p.isOwn = true) (k : d = .ref n ∨ (∃ k u, d = .ref k ∧ S[k]? = some u ∧ Hd p u n)) : o (.v i) = some n ∨ ∃ j, o (.e i j) = some n := by
  obtain ⟨d', h1, h2, h3⟩ := h.slot i p e
  rw [e1] at h1
  cases h1
  rcases k with rfl | ⟨k, u, rfl, e3, l, ds, j, rfl, rfl, e4⟩
  · obtain ⟨m, e1, e2⟩ := h3 ow
    cases e1
    exact .inl e2
  · exact .inr ⟨j, h.in2 i l k ds j n e e1 e3 e4⟩
/-- a variable gets what is not its own -/
theorem Rel.set (h : Rel t b A o S env pe) (nt : ¬ A t) {p : P} {d : D} (q : Rd t S (Av A o) p d) (i : Nat) : Rel t b A (setO o i none) S (env.set i (some d)) (pe.set i (some p)) := by
  have st : Stp t S o S (setO o i none) := setO_stp
  have np : p.isOwn = false := by cases p <;> first | rfl | (unfold Rd at q; exact q.elim)
  refine ⟨by simp [h.len], fun j x e => ?_, fun j k n e1 e2 => ?_, fun j n e => ?_, fun j l n ds k m g1 g2 g3 g4 => ?_⟩
  · rcases get_setS e with ⟨rfl, e, hl⟩ | ⟨ne, e⟩
    · cases e
      exact ⟨d, List.getElem?_set_self (by rw [h.len]; exact hl), .of (st.rd nt q), fun z => by rw [np] at z; cases z⟩
    · obtain ⟨d', h1, h2, h3⟩ := h.slot j x e
      refine ⟨d', by rw [List.getElem?_set_ne (fun z => ne z.symm)]; exact h1, ?_, fun z => ?_⟩
      · exact h2.map' (fun _ n ob _ k2 k3 => ⟨k2, k3⟩) (st.imp nt)
      · obtain ⟨n, e1, e2⟩ := h3 z
        exact ⟨n, e1, by rw [setO_nv ne]; exact e2⟩
  · by_cases c1 : j = i
    · subst c1; rw [setO_self] at e1; cases e1
    · by_cases c2 : k = i
      · subst c2; rw [setO_self] at e2; cases e2
      · rw [setO_ne c1] at e1; rw [setO_ne c2] at e2; exact h.inj j k n e1 e2
  · by_cases c1 : j = i
    · subst c1; rw [setO_self] at e; cases e
    · rw [setO_ne c1] at e; exact h.own j n e
  · rw [setO_e]
    rcases get_setS g1 with ⟨rfl, e, hl⟩ | ⟨ne, e⟩
    · cases e; cases np
    · rw [List.getElem?_set_ne (fun z => ne z.symm)] at g2
      exact h.in2 j l n ds k m e g2 g3 g4
/-- a variable gets a new list for its own -/
theorem Rel.setOwn (h : Rel t b A o S env pe) (a : AdmS t s b A S) {po : P} {ob : O} {n : Nat} (fresh : ∀ i, o i ≠ some n) (bn : b ≤ n) (an : A n) (e : S[n]? = some ob) (q : OwR t S A (fun m => Av A o m ∧ m ≠ n) po ob)
    (old : ∀ (j : Nat) (p : P), pe[j]? = some (some p) → ∀ d, env[j]? = some (some d) → RdT t S A (Av A o) p d → RdT t S A (fun m => Av A o m ∧ m ≠ n) p d) (i : Nat) (h2 : ∀ l, po ≠ .ow2 l := by intro l z; cases z) : Rel t b A (setO o i (some n)) S (env.set i (some (.ref n))) (pe.set i (some po)) := by
  have hav : ∀ m, (Av A o m ∧ m ≠ n) → Av A (setO o i (some n)) m := fun m hm => ⟨hm.1.1, fun j z => by
    by_cases c : j = i
    · subst c; rw [setO_self] at z; cases z; exact hm.2 rfl
    · rw [setO_ne c] at z; exact hm.1.2 j z⟩
  refine ⟨by simp [h.len], fun j x ex => ?_, fun j k m e1 e2 => ?_, fun j m em => ?_, fun j l k ds y m g1 g2 g3 g4 => ?_⟩
  · rcases get_setS ex with ⟨rfl, ex, hl⟩ | ⟨ne, ex⟩
    · cases ex
      exact ⟨.ref n, List.getElem?_set_self (by rw [h.len]; exact hl), OwR.t (OwR.imp (fun _ _ _ a e => ⟨a, e⟩) (fun m o' hm e' => ⟨hav m hm, e'⟩) q) an e, fun _ => ⟨n, rfl, setO_self⟩⟩
    · obtain ⟨d', h1, h2, h3⟩ := h.slot j x ex
      have h2' := old j x ex d' h1 h2
      refine ⟨d', by rw [List.getElem?_set_ne (fun z => ne z.symm)]; exact h1, ?_, fun z => ?_⟩
      · exact h2'.map' (fun _ n ob _ k2 k3 => ⟨k2, k3⟩) (fun m o' hm e' => ⟨hav m hm, e'⟩)
      · obtain ⟨n', e1, e2⟩ := h3 z
        exact ⟨n', e1, by rw [setO_nv ne]; exact e2⟩
  · by_cases c1 : j = i
    · by_cases c2 : k = i
      · rw [c1, c2]
      · subst c1; rw [setO_self] at e1; cases e1; rw [setO_ne c2] at e2; exact absurd e2 (fresh k)
    · by_cases c2 : k = i
      · subst c2; rw [setO_self] at e2; cases e2; rw [setO_ne c1] at e1; exact absurd e1 (fresh j)
      · rw [setO_ne c1] at e1; rw [setO_ne c2] at e2; exact h.inj j k m e1 e2
  · by_cases c1 : j = i
    · subst c1; rw [setO_self] at em; cases em; exact ⟨an, bn, lst_lt e⟩
    · rw [setO_ne c1] at em; exact h.own j m em
  · rw [setO_e]
    rcases get_setS g1 with ⟨rfl, e, hl⟩ | ⟨ne, e⟩
    · cases e; exact absurd rfl (h2 l)
    · rw [List.getElem?_set_ne (fun z => ne z.symm)] at g2
      exact h.in2 j l k ds y m e g2 g3 g4
/-! the rules -/
theorem vs_next : SimS t s ns sNext vNext := fun b A o S env pe τ a T r => Sim2.ret T r
theorem vs_seq (h1 : SimS t s ns f g) (h2 : SimS t s ns f2 g2) : SimS t s ns (sSeq f f2) (vSeq g g2) := fun b A o S env pe τ a T r r' pe' τ' e => by
  unfold vSeq at e
  cases hg : g pe τ with
  | none => rw [hg] at e; cases e
  | some q =>
    obtain ⟨r1, pe1, τ1⟩ := q
    obtain ⟨r1', env1, S1, o1, k1, k2, k3, k4⟩ := h1 b A o S env pe τ a T r r1 pe1 τ1 hg
    rw [hg] at e
    unfold sSeq
    rw [k1]
    cases r1 <;> cases r1' <;> first | exact k4.elim | skip
    · obtain ⟨r2', env2, S2, o2, m1, m2, m3⟩ := h2 b A o1 S1 env1 pe1 τ1 (a.fr k2.len) k3 k4 r' pe' τ' e
      exact ⟨r2', env2, S2, o2, m1, k2.trans m2, m3⟩
    all_goals (cases e; exact ⟨_, env1, S1, o1, rfl, k2, k3, k4⟩)
mutual
theorem put_sim (nt : ¬ A t) : ∀ (tg : Tg) (p : P) (d : D) (o : Ow) (env : Ev) (pe pe' : PE), Rel t b A o S env pe → Rd t S (Av A o) p d → putP tg p pe = some pe' → ∃ env' o', tg.put d env = some env' ∧ Rel t b A o' S env' pe' ∧ Stp t S o S o'
  | .nm i, p, d, o, env, pe, pe', r, q, e => by
    unfold putP at e
    split at e
    · cases e
    · cases e
      exact ⟨_, _, rfl, r.set nt q i, setO_stp⟩
  | .tp l, p, d, o, env, pe, pe', r, q, e => by
    cases p <;> first | (simp [putP] at e; done) | skip
    unfold Rd at q
    obtain ⟨ds, rfl, q⟩ := q
    unfold putP at e
    exact puts_sim nt l _ ds o env pe pe' r q e
theorem puts_sim (nt : ¬ A t) : ∀ (tgs : List Tg) (ps : List P) (ds : List D) (o : Ow) (env : Ev) (pe pe' : PE), Rel t b A o S env pe → Rds t S (Av A o) ps ds → putPs tgs ps pe = some pe' → ∃ env' o', Tg.puts tgs ds env = some env' ∧ Rel t b A o' S env' pe' ∧ Stp t S o S o'
  | [], ps, ds, o, env, pe, pe', r, q, e => by
    cases ps with
    | nil =>
      unfold Rds at q
      subst q
      unfold putPs at e
      cases e
      exact ⟨env, o, rfl, r, Stp.refl⟩
    | cons _ _ => simp [putPs] at e
  | tg :: tgs, ps, ds, o, env, pe, pe', r, q, e => by
    cases ps with
    | nil => simp [putPs] at e
    | cons p ps =>
      unfold Rds at q
      obtain ⟨d, ds', rfl, q1, q2⟩ := q
      unfold putPs at e
      split at e
      · rename_i pe1 h1
        obtain ⟨env1, o1, k1, k2, k3⟩ := put_sim nt tg p d o env pe pe1 r q1 h1
        obtain ⟨env2, o2, m1, m2, m3⟩ := puts_sim nt tgs ps ds' o1 env1 pe1 pe' k2 (k3.rds nt q2) e
        exact ⟨env2, o2, by unfold Tg.puts; rw [k1]; exact m1, m2, k3.trans m3⟩
      · cases e
end
theorem vs_asg (tg : Tg) (he : SimE t s ns fe ge) : SimS t s ns (sAsg tg fe) (vAsg tg ge) := fun b A o S env pe τ a T r =>
  Sim2.bind r a (he A _ S env pe τ (r.adm a) T r.e) fun p d S' τ' f T' q => by
    cases hp : putP tg p pe with
    | none => exact Sim2.none
    | some pe1 =>
      have no : p.isOwn = false := by
        cases p <;> first | rfl | skip
        all_goals (cases tg <;> simp [putP, P.isOwn] at hp)
      obtain ⟨env1, o1, k1, k2, k3⟩ := put_sim a.tape tg p d o env pe pe1 (r.fr a f) (q.rd no) hp
      show Sim2 _ _ _ _ _ _ _ (match tg.put d env with | some env1 => some (Out.nx, env1, S') | none => none) _
      rw [k1]
      exact (Sim2.ret (r := .nx) (r' := .nx) T' k2).stp k3
theorem RdT.bd {n : Nat} {p : P} {d : D} (hn : S.length ≤ n) (h : RdT t S A B p d) : RdT t S A (fun m => B m ∧ m ≠ n) p d := by
  have f : ∀ m ob, B m → S[m]? = some ob → (B m ∧ m ≠ n) ∧ S[m]? = some ob := fun m ob hb e => ⟨⟨hb, by have := lst_lt e; omega⟩, e⟩
  exact h.map' (fun _ n ob _ k2 k3 => ⟨k2, k3⟩) f
theorem vs_asgO (i : Nat) (he : SimF t s ns fe ge) : SimS t s ns (sAsg (.nm i) fe) (vAsgO i ge) := fun b A o S env pe τ a T r r' pe' τ' e => by
  unfold vAsgO at e
  cases hg : ge pe τ with
  | none => rw [hg] at e; cases e
  | some q =>
    obtain ⟨r1, τ1⟩ := q
    obtain ⟨r1', S1, e1, f, T1, q1⟩ := he A _ S env pe τ (r.adm a) T r.e r1 τ1 hg
    rw [hg] at e
    cases r1 with
    | ex z =>
      cases e
      cases r1' with
      | ok _ => exact q1.elim
      | ex z' => exact ⟨.ex z', env, S1, o, by unfold sAsg; rw [e1]; rfl, f.stp o, T1, RdX.mono (fun n a => a.1) q1, r.fr a f⟩
    | ok p =>
      cases r1' with
      | ex _ => exact q1.elim
      | ok d =>
        obtain ⟨l, n, ds, rfl, rfl, hn, e0, q⟩ := q1
        cases e
        have r2 := r.fr a f
        have fresh : ∀ j, o j ≠ some n := fun j z => by have := (r.own j n z).2.2; omega
        have adm := r.adm a
        refine ⟨.nx, _, S1, _, by unfold sAsg; rw [e1]; rfl, ⟨f.len, fun m x y z => f.old m x y, fun j m em => ?_⟩, T1, r2.setOwn (a.fr f.len) (po := .own l) (ob := .lst ds) fresh (Nat.le_trans a.bl hn) (a.new n hn) e0 q (fun j p hj d hd _ => ?_) i⟩
        · by_cases h : j = i
          · subst h; rw [setO_self] at em; cases em; exact .inr hn
          · rw [setO_ne h] at em; exact .inl ⟨j, em⟩
        · obtain ⟨d', h1, h2, _⟩ := r.slot j p hj
          rw [hd] at h1
          cases h1
          exact (h2.bd hn).map' (fun _ n ob _ k2 k3 => ⟨k2, f.get (fun z => a.tape (z ▸ k2)) k3⟩) (fun n ob k2 k3 => ⟨k2, f.get (fun z => adm.nt (z ▸ k2.1)) k3⟩)
/-- a variable's lists are given up -/
def relO (o : Ow) (i : Nat) : Ow
  | .v k => if k = i then none else o (.v k)
  | .e k j => if k = i then none else o (.e k j)
theorem relO_some {i n : Nat} {x : Ix} (h : relO o i x = some n) : o x = some n ∧ x ≠ .v i ∧ ∀ j, x ≠ .e i j := by
  cases x with
  | v k =>
    simp only [relO] at h
    split at h
    · cases h
    · rename_i ne
      exact ⟨h, fun z => ne (Ix.v.inj z), fun j z => by cases z⟩
  | e k j =>
    simp only [relO] at h
    split at h
    · cases h
    · rename_i ne
      exact ⟨h, fun z => (by cases z), fun j z => by injection z with z _; exact ne z⟩
theorem relO_nv {i j : Nat} (h : j ≠ i) : relO o i (.v j) = o (.v j) := if_neg h
theorem relO_ne {i j k : Nat} (h : j ≠ i) : relO o i (.e j k) = o (.e j k) := if_neg h
theorem relO_stp {i : Nat} : Stp t S o S (relO o i) := ⟨Nat.le_refl _, fun _ _ _ _ => rfl, fun _ _ h => .inl ⟨_, (relO_some h).1⟩⟩
theorem Rel.thaw (h : Rel t b A o S env pe) (nt : ¬ A t) (i : Nat) : ∃ o', Rel t b A o' S env (thawAt i pe) ∧ Stp t S o S o' := by
  unfold thawAt
  split
  · rename_i p e
    split
    · rename_i ow
      obtain ⟨d, h1, h2, h3⟩ := h.slot i _ e
      have st : Stp t S o S (relO o i) := relO_stp
      have h2' : RdT t S (Av A (relO o i)) (Av A (relO o i)) p d := by
        refine h2.map' (fun _ m ob k1 k2 k3 => ⟨⟨k2, fun x z => ?_⟩, k3⟩) (st.imp nt)
        obtain ⟨z1, z2, z3⟩ := relO_some z
        rcases h.holdsI e h1 ow k1 with g | ⟨j, g⟩
        · exact z2 (h.inj _ _ _ z1 g)
        · exact z3 j (h.inj _ _ _ z1 g)
      have q : Rd t S (Av A (relO o i)) p.thaw d := h2'.thaw fun _ z => z
      have no : p.thaw.isOwn = false := by cases p <;> first | rfl | cases ow
      refine ⟨relO o i, ⟨by simp [h.len], fun j x ex => ?_, fun j k m e1 e3 => h.inj _ _ _ (relO_some e1).1 (relO_some e3).1, fun j m em => h.own _ _ (relO_some em).1, fun j l n ds k m g1 g2 g3 g4 => ?_⟩, st⟩
      · rcases get_setS ex with ⟨rfl, ex, hl⟩ | ⟨ne, ex⟩
        · cases ex
          exact ⟨_, h1, .of q, fun z => by rw [no] at z; cases z⟩
        · obtain ⟨d', h1, h2, h3⟩ := h.slot j x ex
          refine ⟨d', h1, h2.map' (fun _ n ob _ k2 k3 => ⟨k2, k3⟩) (st.imp nt), fun z => ?_⟩
          obtain ⟨n, e1, e2⟩ := h3 z
          exact ⟨n, e1, by rw [relO_nv ne]; exact e2⟩
      · rcases get_setS g1 with ⟨rfl, ex, hl⟩ | ⟨ne, ex⟩
        · rw [Option.some.inj ex] at no
          cases no
        · rw [relO_ne ne]
          exact h.in2 j l n ds k m ex g2 g3 g4
    · exact ⟨o, h, Stp.refl⟩
  · exact ⟨o, h, Stp.refl⟩
theorem vs_thaw (i : Nat) (h : SimS t s ns f g) : SimS t s ns f (vThaw i g) := fun b A o S env pe τ a T r => by
  obtain ⟨o', r', st⟩ := r.thaw a.tape i
  exact (h b A o' S env _ τ a T r').stp st
theorem vs_ret (he : SimE t s ns fe ge) : SimS t s ns (sRet fe) (vRet ge) := fun b A o S env pe τ a T r =>
  Sim2.bind r a (he A _ S env pe τ (r.adm a) T r.e) fun p d S' τ' f T' q => Sim2.ret (r := .rt p.thaw) (r' := .rt d) T' ⟨q.thaw fun n z => z.1, r.fr a f⟩
theorem vs_if {fc : Ev → Sto → Ans Bool} {gc : PE → Tau → AP Bool} (hc : SimT t s ns fc gc) (h1 : SimS t s ns f g) (h2 : SimS t s ns f2 g2) : SimS t s ns (sIf fc f f2) (vIfS gc g g2) := fun b A o S env pe τ a T r =>
  Sim2.bind r a (hc A _ S env pe τ (r.adm a) T r.e) fun p d S' τ' f T' q => by
    subst q
    cases p with
    | true => exact h1 b A o S' env pe τ' (a.fr f.len) T' (r.fr a f)
    | false => exact h2 b A o S' env pe τ' (a.fr f.len) T' (r.fr a f)
theorem vs_while (n : Nat) {fc : Ev → Sto → Ans Bool} {gc : PE → Tau → AP Bool} (hc : SimT t s ns fc gc) (hb : SimS t s ns f g) : SimS t s ns (sWhile n fc f) (whileV gc g n) := by
  unfold sWhile
  induction n with
  | zero => exact fun b A o S env pe τ a T r => Sim2.none
  | succ n ih =>
    intro b A o S env pe τ a T r
    refine Sim2.bind r a (hc A _ S env pe τ (r.adm a) T r.e) fun p d S' τ' f1 T' q => ?_
    subst q
    cases p with
    | false => exact Sim2.ret (r := .nx) (r' := .nx) T' (r.fr a f1)
    | true =>
      rw [if_pos rfl, if_pos rfl]
      intro r' pe' τ2 e
      cases hg : g pe τ' with
      | none => rw [hg] at e; cases e
      | some q =>
        obtain ⟨r1, pe1, τ1⟩ := q
        obtain ⟨r1', env1, S1, o1, k1, k2, k3, k4⟩ := hb b A o S' env pe τ' (a.fr f1.len) T' (r.fr a f1) r1 pe1 τ1 hg
        rw [hg] at e
        rw [k1]
        cases r1 <;> cases r1' <;> first | exact k4.elim | skip
        · obtain ⟨r2', env2, S2, o2, m1, m2, m3⟩ := ih b A o1 S1 env1 pe1 τ1 ((a.fr f1.len).fr k2.len) k3 k4 r' pe' τ2 e
          exact ⟨r2', env2, S2, o2, m1, k2.trans m2, m3⟩
        · cases e; exact ⟨_, env1, S1, o1, rfl, k2, k3, k4⟩
        · cases e; exact ⟨_, env1, S1, o1, rfl, k2, k3, k4⟩
        · obtain ⟨r2', env2, S2, o2, m1, m2, m3⟩ := ih b A o1 S1 env1 pe1 τ1 ((a.fr f1.len).fr k2.len) k3 k4 r' pe' τ2 e
          exact ⟨r2', env2, S2, o2, m1, k2.trans m2, m3⟩
        · cases e; exact ⟨_, env1, S1, o1, rfl, k2, k3, k4⟩
end
/-- what is walked; okS: as long as what may be met stays -/
def ItW (A B : Nat → Prop) (t : Nat) (S : Sto) (l : List P) (w : Wk) : Prop := Rds t S B l w.items ∧ ∀ S', (∀ n, n < S.length → A n → S'[n]? = S[n]?) → w.ok S'
/-- the same, while the own lists may change -/
def ItS (A B : Nat → Prop) (t : Nat) (S : Sto) (l : List P) (w : Wk) : Prop := Rds t S B l w.items ∧ ∀ S', (∀ n, n < S.length → B n → S'[n]? = S[n]?) → w.ok S'
section
variable (t s : Nat) (ns : List Int)
abbrev SimIW (f : Ev → Sto → Ans Wk) (g : PE → Tau → AP (List P)) : Prop := SimG t s ns (fun A B S l w => ItW A B t S l w) f g
abbrev SimIS (f : Ev → Sto → Ans Wk) (g : PE → Tau → AP (List P)) : Prop := SimG t s ns (fun A B S l w => ItS A B t S l w) f g
end
section
variable {t s : Nat} {ns : List Int} {b : Nat} {A B : Nat → Prop} {o o' : Ow} {S S' : Sto} {env env' : Ev} {pe pe' : PE} {τ τ' : Tau} {f f2 : Ev → Sto → AnsS} {g g2 : PE → Tau → AnsV} {fe fi : Ev → Sto → Ans D} {ge gi : PE → Tau → AP P}
theorem Stp.av (h : Stp t S o S' o') (nt : ¬ A t) : ∀ n, n < S.length → Av A o n → S'[n]? = S[n]? := fun n lt a => h.old n lt (fun z => nt (z ▸ a.1)) a.2
theorem for_sim {ok : Sto → Prop} (tg : Tg) (hb : SimS t s ns f g) (S0 : Sto) (o0 : Ow) (hok : ∀ S', (∀ n, n < S0.length → Av A o0 n → S'[n]? = S0[n]?) → ok S') : ∀ (l : List P) (ds : List D) (o : Ow) (S : Sto) (env : Ev) (pe : PE) (τ : Tau), Rds t S0 (Av A o0) l ds → Stp t S0 o0 S o → AdmS t s b A S → TpOk t s ns S τ → Rel t b A o S env pe → Sim2 t s ns b A o S (forD ok tg f ds env S) (forV tg g l pe τ)
  | [], ds, o, S, env, pe, τ, q, st, a, T, r => by
    unfold Rds at q
    subst q
    unfold forD forV
    rw [if_pos (hok S (st.av a.tape))]
    exact Sim2.ret (r := .nx) (r' := .nx) T r
  | p :: ps, ds, o, S, env, pe, τ, q, st, a, T, r => by
    unfold Rds at q
    obtain ⟨d, ds', rfl, q1, q2⟩ := q
    unfold forD forV
    rw [if_pos (hok S (st.av a.tape))]
    cases hp : putP tg p pe with
    | none => exact Sim2.none
    | some pe1 =>
      obtain ⟨env1, o1, k1, k2, k3⟩ := put_sim a.tape tg p d o env pe pe1 r (st.rd a.tape q1) hp
      rw [k1]
      simp only
      intro r' pe' τ2 e
      cases hg : g pe1 τ with
      | none => rw [hg] at e; cases e
      | some q =>
        obtain ⟨r1, pe2, τ1⟩ := q
        obtain ⟨r1', env2, S2, o2, j1, j2, j3, j4⟩ := hb b A o1 S env1 pe1 τ a T k2 r1 pe2 τ1 hg
        rw [hg] at e
        rw [j1]
        have st2 := k3.trans j2
        cases r1 <;> cases r1' <;> first | exact j4.elim | skip
        · obtain ⟨r2', env3, S3, o3, m1, m2, m3⟩ := for_sim tg hb S0 o0 hok ps ds' o2 S2 env2 pe2 τ1 q2 (st.trans st2) (a.fr j2.len) j3 j4 r' pe' τ2 e
          exact ⟨r2', env3, S3, o3, m1, st2.trans m2, m3⟩
        · cases e; exact ⟨_, env2, S2, o2, rfl, st2, j3, j4⟩
        · cases e; exact ⟨.nx, env2, S2, o2, rfl, st2, j3, j4⟩
        · obtain ⟨r2', env3, S3, o3, m1, m2, m3⟩ := for_sim tg hb S0 o0 hok ps ds' o2 S2 env2 pe2 τ1 q2 (st.trans st2) (a.fr j2.len) j3 j4 r' pe' τ2 e
          exact ⟨r2', env3, S3, o3, m1, st2.trans m2, m3⟩
        · cases e; exact ⟨_, env2, S2, o2, rfl, st2, j3, j4⟩
theorem vs_for {fw : Ev → Sto → Ans Wk} {gw : PE → Tau → AP (List P)} (tg : Tg) (hi : SimIS t s ns fw gw) (hb : SimS t s ns f g) : SimS t s ns (sFor fw tg f) (vFor gw tg g) := fun b A o S env pe τ a T r =>
  Sim2.bind r a (hi A _ S env pe τ (r.adm a) T r.e) fun l w S' τ' f1 T' q => for_sim tg hb S' o q.2 l w.items o S' env pe τ' q.1 Stp.refl (a.fr f1.len) T' (r.fr a f1)
/-! own lists are written -/
theorem Rel.write (h : Rel t b A o S env pe) (a : AdmS t s b A S) {i n : Nat} {p p' : P} {ob ob' : O} (e : pe[i]? = some (some p)) (ow : p.isOwn = true) (e2 : o i = some n) (e3 : S[n]? = some ob) (q : OwR t S A (Av A o) p' ob') (hx : ∀ l, p' ≠ .ow2 l := by intro l z; cases z) :
    Rel t b A o (S.set n ob') env (pe.set i (some p')) ∧ Stp t S o (S.set n ob') o := by
  have lt := lst_lt e3
  have st : Stp t S o (S.set n ob') o := ⟨by simp, fun m x y z => List.getElem?_set_ne (fun c => z i (by rw [← c]; exact e2)), fun j m z => .inl ⟨j, z⟩⟩
  have other : ∀ {j : Nat} {x : P} {d : D} {m : Nat}, j ≠ i → pe[j]? = some (some x) → env[j]? = some (some d) → x.isOwn = true → (d = .ref m ∨ (∃ k u, d = .ref k ∧ S[k]? = some u ∧ Hd x u m)) → n ≠ m := fun {j x d m} ne ex h1 ow' k1 z => by
    subst z
    rcases h.holdsI ex h1 ow' k1 with g | ⟨k, g⟩
    · exact ne (Ix.v.inj (h.inj _ _ _ g e2))
    · exact absurd (h.inj _ _ _ g e2) (by intro z; cases z)
  refine ⟨⟨by simp [h.len], fun j x ex => ?_, h.inj, fun j m em => by rw [List.length_set]; exact h.own j m em, fun j l k ds y m g1 g2 g3 g4 => ?_⟩, st⟩
  · rcases get_setS ex with ⟨rfl, ex, hl⟩ | ⟨ne, ex⟩
    · cases ex
      obtain ⟨d, h1, h2, h3⟩ := h.slot j _ e
      obtain ⟨n', k1, k2⟩ := h3 ow
      rw [e2] at k2
      cases k2
      have q' : OwR t (S.set n ob') A (Av A o) p' ob' := OwR.imp (fun m u hd => by
        obtain ⟨l, ds, y, z, _⟩ := hd
        exact absurd z (hx l)) (st.imp a.tape) q
      exact ⟨d, h1, by rw [k1]; exact q'.t (h.own j n e2).1 (List.getElem?_set_self lt), fun _ => ⟨n, k1, e2⟩⟩
    · obtain ⟨d, h1, h2, h3⟩ := h.slot j x ex
      refine ⟨d, h1, h2.map' (fun ow' m ob k1 k2 k3 => ?_) (st.imp a.tape), h3⟩
      exact ⟨k2, by rw [List.getElem?_set_ne (other ne ex h1 ow' k1)]; exact k3⟩
  · rcases get_setS g1 with ⟨rfl, e, hl⟩ | ⟨ne, e⟩
    · cases e; exact absurd rfl (hx l)
    · rw [List.getElem?_set_ne (other ne e g2 rfl (.inl rfl))] at g3
      exact h.in2 j l k ds y m e g2 g3 g4
theorem TpOk.write {n : Nat} {ob : O} (T : TpOk t s ns S τ) (h1 : n ≠ t) (h2 : n ≠ s) : TpOk t s ns (S.set n ob) τ := ⟨by rw [List.getElem?_set_ne h1]; exact T.tape, by rw [List.getElem?_set_ne h2]; exact T.src, T.pos, T.ne⟩
theorem Rel.ownOb (h : Rel t b A o S env pe) (a : AdmS t s b A S) {i : Nat} {p : P} (e : pe[i]? = some (some p)) (ow : p.isOwn = true) : ∃ n ob, env[i]? = some (some (.ref n)) ∧ o i = some n ∧ S[n]? = some ob ∧ OwR t S A (Av A o) p ob ∧ n ≠ t ∧ n ≠ s := by
  obtain ⟨d, h1, h2, h3⟩ := h.slot i _ e
  obtain ⟨n, rfl, e2⟩ := h3 ow
  obtain ⟨n', ob, k1, k2, k3, k4⟩ := h2.ow ow
  cases k1
  exact ⟨n, ob, h1, e2, k3, k4, fun z => a.tape (z ▸ k2), by have := (h.own i n e2).2.1; have := a.src; omega⟩
theorem Rel.ownAt (h : Rel t b A o S env pe) (a : AdmS t s b A S) {i : Nat} {l : List P} (e : pe[i]? = some (some (.own l))) : ∃ n ds, env[i]? = some (some (.ref n)) ∧ o i = some n ∧ S[n]? = some (.lst ds) ∧ Rds t S (Av A o) l ds ∧ n ≠ t ∧ n ≠ s := by
  obtain ⟨n, ob, h1, e2, k3, k4, h5⟩ := h.ownOb a e rfl
  cases ob <;> first | exact k4.elim | exact ⟨n, _, h1, e2, k3, k4, h5⟩
theorem vs_append (i : Nat) (he : SimE t s ns fe ge) : SimS t s ns (sExpr (dM "list" mAppend (dVar i) (dCons fe dNil))) (vAppend i ge) := fun b A o S env pe τ a T r => by
  unfold vAppend
  cases h : pe[i]? with
  | none => exact Sim2.none
  | some q => cases q with
    | none => exact Sim2.none
    | some p => cases p with
      | own l =>
        obtain ⟨n, ds, e1, e2, e3, e4, e5, e6⟩ := r.ownAt a h
        intro r' pe' τ' e
        simp only at e
        cases hg : ge pe τ with
        | none => rw [hg] at e; cases e
        | some q =>
          obtain ⟨r1, τ1⟩ := q
          obtain ⟨r1', S1, k1, f1, T1, q1⟩ := he A _ S env pe τ (r.adm a) T r.e r1 τ1 hg
          rw [hg] at e
          have ty : tyM "list" (.ref n) S = true := by rw [E_tyM_list, seq_lst e3]; rfl
          cases r1 with
          | ex z =>
            cases e
            cases r1' with
            | ok _ => exact q1.elim
            | ex z' => exact ⟨.ex z', env, S1, o, by simp [e1, ty, k1], f1.stp o, T1, RdX.mono (fun n a => a.1) q1, r.fr a f1⟩
          | ok p =>
            cases r1' with
            | ex _ => exact q1.elim
            | ok d =>
              simp only [bindSV] at e
              split at e
              · cases e
              · rename_i no
                have no : p.isOwn = false := by simpa using no
                split at e
                · rename_i hz
                  cases e
                  have r2 := r.fr a f1
                  have e3' := f1.get e5 e3
                  have e4' := f1.rds (r.adm a).nt e4
                  obtain ⟨r3, st⟩ := r2.write (a.fr f1.len) h rfl e2 e3' (p' := .own (l ++ [p])) (ob' := .lst (ds ++ [d])) (e4'.app (Rds.cons (RdT.rd q1 no) Rds.nil))
                  refine ⟨.nx, env, _, o, ?_, (f1.stp o).trans st, T1.write e5 e6, r3⟩
                  simp [e1, ty, k1, e3', ← e4.len, hz]
                · cases e
      | _ => exact Sim2.none
theorem vs_setI (i : Nat) (he : SimE t s ns fe ge) (hi : SimE t s ns fi gi) : SimS t s ns (sSub gSetL fe (dVar i) fi) (vSetI i ge gi) := fun b A o S env pe τ a T r => by
  unfold vSetI sSub
  refine Sim2.bind r a (he A _ S env pe τ (r.adm a) T r.e) fun p d S1 τ1 f1 T1 q1 => ?_
  have r1 := r.fr a f1
  have a1 := a.fr f1.len
  cases h : pe[i]? with
  | none => exact Sim2.none
  | some q => cases q with
    | none => exact Sim2.none
    | some x => cases x with
      | own l =>
        obtain ⟨n, ds, e1, e2, e3, e4, e5, e6⟩ := r1.ownAt a1 h
        have hv : dVar i env S1 = some (.ok (.ref n), S1) := by simp [e1]
        rw [hv, bindS_okE]
        refine Sim2.bind r1 a1 (hi A _ S1 env pe τ1 (r1.adm a1) T1 r1.e) fun k kd S2 τ2 f2 T2 q2 => ?_
        have r2 := r1.fr a1 f2
        have a2 := a1.fr f2.len
        by_cases no' : p.isOwn = true
        · rw [if_pos no']; exact Sim2.none
        · rw [if_neg no']
          have no : p.isOwn = false := by simpa using no'
          cases k with
          | int k =>
            simp only
            unfold RdT Rd at q2
            subst q2
            have e3' := f2.get e5 e3
            have e4' := f2.rds (r1.adm a1).nt e4
            have q1' := f2.rdt (r1.adm a1) q1
            have hlen := e4.len
            cases hj : ixN l.length k with
            | none => exact Sim2.none
            | some j =>
              obtain ⟨r3, st⟩ := r2.write a2 h rfl e2 e3' (p' := .own (l.set j p)) (ob' := .lst (ds.set j d)) (Rds.set (q1'.rd no) j e4')
              rw [E_gSetL, e3']
              rw [hlen] at hj
              simp only [hj]
              exact (Sim2.ret (r := .nx) (r' := .nx) (T2.write e5 e6) r3).stp st
          | _ => exact Sim2.none
      | _ => exact Sim2.none
/-- an operation op=, on what is no list -/
theorem vs_aug (i : Nat) {gg : D → D → Sto → Option (D × Sto)} {h : P → P → Option P} (op : OpV t gg h) (he : SimE t s ns fe ge) : SimS t s ns (sAug i gg fe) (vAug i h ge) := fun b A o S env pe τ a T r => by
  unfold vAug sAug
  cases hx : pe[i]? with
  | none => exact Sim2.none
  | some q => cases q with
    | none => exact Sim2.none
    | some x =>
      obtain ⟨dx, h1, h2, h3⟩ := r.slot i x hx
      rw [h1]
      refine Sim2.bind r a (he A _ S env pe τ (r.adm a) T r.e) fun y d S1 τ1 f1 T1 q1 => ?_
      have r1 := r.fr a f1
      have a1 := a.fr f1.len
      cases hh : h x y with
      | none => exact Sim2.none
      | some z =>
        obtain ⟨d', T', e1, e2⟩ := op A _ S1 x y z dx d (r1.adm a1) (f1.rdt (r.adm a) h2) q1 hh
        rw [e1]
        simp only
        split
        · exact Sim2.none
        · have f2 : Fr t S1 (S1 ++ T') := Fr.app _ _
          exact ((Sim2.ret (r := .nx) (r' := .nx) (T1.app T') ((r1.fr a1 f2).set a.tape e2 i)).stp setO_stp).stp (f2.stp o)
/-! ### a def's body -/
def runV (n m : Nat) (fb : PE → Tau → AnsV) : MirV := fun ps τ => if ps.length = n then match fb (ps.map some ++ List.replicate (m - n) none) τ with
    | some (.nx, _, τ') => some (.ok .non, τ')
    | some (.rt p, _, τ') => some (.ok p, τ')
    | some (.ex e, _, τ') => some (.ex e, τ')
    | _ => none
  else none
theorem Rds.noOwn : ∀ {ps : List P} {ds : List D}, Rds t S A ps ds → ∀ p ∈ ps, p.isOwn = false
  | [], _, _, _, h => by cases h
  | p :: ps, _, q, x, h => by
    unfold Rds at q
    obtain ⟨d, r, _, q1, q2⟩ := q
    rcases List.mem_cons.mp h with rfl | h
    · cases x <;> first | rfl | (unfold Rd at q1; exact q1.elim)
    · exact Rds.noOwn q2 x h
theorem Rds.noOw2 {ps : List P} {ds : List D} (q : Rds t S A ps ds) {k i : Nat} {l : List P} (e : (ps.map some ++ List.replicate k none)[i]? = some (some (P.ow2 l))) : False := by
  have m := List.mem_of_getElem? e
  rw [List.mem_append] at m
  rcases m with m | m
  · obtain ⟨x, hx, z⟩ := List.mem_map.mp m
    cases z
    have := q.noOwn _ hx
    cases this
  · have := List.eq_of_mem_replicate m
    cases this
theorem vok_body {n m : Nat} (h : SimS t s ns f g) : VOk t s ns (runB n m f) (runV n m g) := fun A S ds ps τ a q T r τ' e => by
  unfold runV at e
  have hl := q.len
  split at e
  · rename_i hn
    have rel : Rel t S.length A (fun _ => none) S (ds.map some ++ List.replicate (m - n) none) (ps.map some ++ List.replicate (m - n) none) := by
      refine ⟨by simp [hl], fun i p ei => ?_, fun _ _ _ z => by (cases z), fun _ _ z => by (cases z), fun i l n es j m z => (q.noOw2 z).elim⟩
      by_cases hi : i < ps.length
      · rw [List.getElem?_append_left (by simpa using hi), List.getElem?_map] at ei
        cases hp : ps[i]? with
        | none => rw [hp] at ei; cases ei
        | some p' =>
          rw [hp] at ei
          cases ei
          obtain ⟨d, e1, e2⟩ := q.get hp
          refine ⟨d, ?_, RdT.of (Rd.imp (fun n o x e => ⟨⟨x, fun _ z => by cases z⟩, e⟩) _ _ e2), fun z => by rw [q.noOwn p (List.mem_of_getElem? hp)] at z; cases z⟩
          rw [List.getElem?_append_left (by rw [List.length_map, ← hl]; exact hi), List.getElem?_map, e1]
          rfl
      · rw [List.getElem?_append_right (by simpa using hi), List.getElem?_replicate] at ei
        split at ei <;> cases ei
    have ad : AdmS t s S.length A S := ⟨Nat.le_refl _, a.new, a.tape, lst_lt T.src⟩
    cases hg : g (ps.map some ++ List.replicate (m - n) none) τ with
    | none => rw [hg] at e; cases e
    | some z =>
      obtain ⟨r1, pe1, τ1⟩ := z
      obtain ⟨r1', env1, S1, o1, k1, k2, k3, k4⟩ := h S.length A _ S _ _ τ ad T rel r1 pe1 τ1 hg
      rw [hg] at e
      have fr : Fr t S S1 := ⟨k2.len, fun n lt ne => k2.old n lt ne fun i z => by cases z⟩
      unfold runB
      rw [if_pos (by rw [← hl]; exact hn), k1]
      cases r1 <;> cases r1' <;> first | exact k4.elim | skip
      · cases e; exact ⟨.ok .non, S1, rfl, fr, k3, by show Rd t S1 A .non .non; unfold Rd; rfl⟩
      · cases e; exact ⟨.ok _, S1, rfl, fr, k3, k4.1⟩
      · cases e
      · cases e
      · cases e; exact ⟨.ex _, S1, rfl, fr, k3, k4.1⟩
  · cases e
end
end VL
namespace VL
open PySem PySem.Spec PyProof.Rows L2 RT RZ DL
/-! ### the operations on values -/
section
variable {t : Nat} {S : Sto} {A B : Nat → Prop} {p q : P} {d e : D}
theorem rInt {i : Int} (h : RdT t S A B (.int i) d) : d = .int i := by unfold RdT Rd at h; exact h
theorem rStr {i : Str} (h : RdT t S A B (.str i) d) : d = .str i := by unfold RdT Rd at h; exact h
theorem rBl {i : Bool} (h : RdT t S A B (.bl i) d) : d = .bl i := by unfold RdT Rd at h; exact h
theorem rNon (h : RdT t S A B .non d) : d = .non := by unfold RdT Rd at h; exact h
theorem rTape (h : RdT t S A B .tape d) : d = .ref t := by unfold RdT Rd at h; exact h
theorem rTup {l : List P} (h : RdT t S A B (.tup l) d) : ∃ ds, d = .tup ds ∧ Rds t S B l ds := by unfold RdT Rd at h; exact h
theorem rLst {l : List P} (h : RdT t S A B (.lst l) d) : ∃ n ds, d = .ref n ∧ S[n]? = some (.lst ds) ∧ Rds t S B l ds := by
  unfold RdT Rd at h
  obtain ⟨n, ds, e, _, q⟩ := h
  exact ⟨n, ds, e, q⟩
theorem rOwn {l : List P} (h : RdT t S A B (.own l) d) : ∃ n ds, d = .ref n ∧ S[n]? = some (.lst ds) ∧ Rds t S B l ds := by
  obtain ⟨n, ds, e, _, q⟩ := h
  exact ⟨n, ds, e, q⟩
theorem rDct {l : List P} (h : RdT t S A B (.dct l) d) : ∃ n es, d = .ref n ∧ S[n]? = some (.dct es) ∧ Rds t S B l (es.map prD) := by
  unfold RdT Rd at h
  obtain ⟨n, ds, e, _, q⟩ := h
  exact ⟨n, ds, e, q⟩
theorem rOwnd {l : List P} (h : RdT t S A B (.ownd l) d) : ∃ n es, d = .ref n ∧ S[n]? = some (.dct es) ∧ Rds t S B l (es.map prD) := by
  obtain ⟨n, ds, e, _, q⟩ := h
  exact ⟨n, ds, e, q⟩
theorem rOw2 {l : List P} (h : RdT t S A B (.ow2 l) d) : ∃ n ds, d = .ref n ∧ S[n]? = some (.lst ds) ∧ Rd2 t S A B l ds := by
  obtain ⟨n, ds, e, _, q⟩ := h
  exact ⟨n, ds, e, q⟩
theorem rExn {c : Str} {l : List P} (h : RdT t S A B (.exn c l) d) : ∃ n x, d = .ref n ∧ S[n]? = some (.exn x) ∧ x.cls = c ∧ Rds t S B l (Exn.fs x) := by
  unfold RdT Rd at h
  obtain ⟨n, x, e, _, q1, q2, q⟩ := h
  exact ⟨n, x, e, q1, q2, q⟩
theorem rScr {l : List Int} (h : RdT t S A B (.scr l) d) : ∃ n, d = .ref n ∧ S[n]? = some (.rol (l.map D.int)) := by
  unfold RdT Rd at h
  obtain ⟨n, e, _, q⟩ := h
  exact ⟨n, e, q⟩
theorem rds_ints : ∀ l : List Int, Rds t S B (l.map P.int) (l.map D.int)
  | [] => Rds.nil
  | i :: l => Rds.cons (by unfold Rd; rfl) (rds_ints l)
theorem rRot {l : List P} (h : RdT t S A B (.rot l) d) : ∃ n ds, d = .ref n ∧ S[n]? = some (.rot ds) ∧ Rds t S B l ds := by
  unfold RdT Rd at h
  obtain ⟨n, ds, e, _, q⟩ := h
  exact ⟨n, ds, e, q⟩
theorem mInt' {i : Int} : Rd t S B (.int i) (.int i) := by unfold Rd; rfl
theorem mStr' {i : Str} : Rd t S B (.str i) (.str i) := by unfold Rd; rfl
theorem mBl' {i : Bool} : Rd t S B (.bl i) (.bl i) := by unfold Rd; rfl
theorem mTup' {l : List P} {ds : List D} (h : Rds t S B l ds) : Rd t S B (.tup l) (.tup ds) := by unfold Rd; exact ⟨ds, rfl, h⟩
/-- the items of what is a list -/
def lstOf : P → Option (List P)
  | .lst l => some l
  | .own l => some l
  | _ => none
theorem rList {l : List P} (e : lstOf p = some l) (h : RdT t S A B p d) : ∃ n ds, d = .ref n ∧ S[n]? = some (.lst ds) ∧ Rds t S B l ds := by
  cases p <;> first | cases e | skip
  · exact rLst h
  · exact rOwn h
/-- a new list behind the store -/
theorem Rds.lst {l : List P} {ds : List D} (a : Adm t A B S) (h : Rds t S B l ds) : Rd t (S ++ [.lst ds]) B (.lst l) (.ref S.length) := by
  unfold Rd
  exact ⟨S.length, ds, rfl, a.new _ (Nat.le_refl _), get_last _ _, Rds.imp (fun n o b e => ⟨b, get_old e⟩) _ _ h⟩
theorem Rd.nil {x : D} (h : Rd t S B p x) : Rd t (S ++ []) B p x := by rw [List.append_nil]; exact h
end
/-- a list operation as an operation -/
theorem OpVF.v {t : Nat} {g : D → D → Sto → Option (D × Sto)} {h : P → P → Option P} (o : OpVF t g h) (lo : ∀ a, Lsty (h a)) : OpV t g h := fun A B S p q r a b ad ra rb e => by
  obtain ⟨l, rfl⟩ := lo p q r e
  obtain ⟨ds, e1, e2⟩ := o A B S p q l a b ad ra rb e
  exact ⟨_, _, e1, e2.lst ad⟩
theorem CallVF.v {t : Nat} {g : List D → Sto → Option (D × Sto)} {h : List P → Option P} (o : CallVF t g h) (lo : Lsty h) : CallV t g h := fun A B S ps r ds ad ra e => by
  obtain ⟨l, rfl⟩ := lo ps r e
  obtain ⟨es, e1, e2⟩ := o A B S ps l ds ad ra e
  exact ⟨_, _, e1, e2.lst ad⟩
/-- nothing new is made -/
theorem same {S : Sto} {d : D} {x : Option (D × Sto)} (h : x = some (d, S)) : x = some (d, S ++ []) := by rw [List.append_nil]; exact h
/-- + of lists -/
def pCat (p q : P) : Option P := match lstOf p, lstOf q with
  | some xs, some ys => if xs.length + ys.length ≤ sizeLine then some (.lst (xs ++ ys)) else none
  | _, _ => none
def pAdd : P → P → Option P
  | .int i, .int j => some (.int (i + j))
  | .str x, .str y => if x.length + y.length ≤ sizeLine then some (.str (x ++ y)) else none
  | .tup xs, .tup ys => if xs.length + ys.length ≤ sizeLine then some (.tup (xs ++ ys)) else none
  | .int i, .bl k => some (.int (i + b2i k))
  | p, q => pCat p q
def pIAdd : P → P → Option P
  | .int i, .int j => some (.int (i + j))
  | .str x, .str y => if x.length + y.length ≤ sizeLine then some (.str (x ++ y)) else none
  | _, _ => none
def pSub : P → P → Option P
  | .int i, .int j => some (.int (i - j))
  | _, _ => none
open Classical in
noncomputable def pMul : P → P → Option P
  | .int i, .int j => if CMul i j ∨ CMulW i j ∨ IntMulOk i j then some (.int (i * j)) else none
  | .str x, .int n => if MulOk x n then some (.str (Txt.mul x n)) else none
  | _, _ => none
open Classical in
noncomputable def pFdiv : P → P → Option P
  | .int i, .int j => if CDivW i j then some (.int (i / j)) else none
  | _, _ => none
def pMod : P → P → Option P
  | .int i, .int j => if 0 < j then some (.int (i % j)) else none
  | _, _ => none
mutual
def P.py : P → Option PyData
  | .non => some .none
  | .bl b => some (.bool b)
  | .int i => some (.int i)
  | .str x => some (.str x)
  | .tup l => match P.pys l with
    | some ps => some (.tuple ps)
    | none => none
  | _ => none
def P.pys : List P → Option (List PyData)
  | [] => some []
  | d :: ds => match P.py d, P.pys ds with
    | some p, some ps => some (p :: ps)
    | _, _ => none
end
def pyT : P → Option PyData
  | .lst l => match P.pys l with
    | some ps => some (.list ps)
    | none => none
  | .own l => match P.pys l with
    | some ps => some (.list ps)
    | none => none
  | p => p.py
def deepP (a b : P) : Option Bool := match pyT a, pyT b with
  | some d, some e => if SeqAt.shaped d = true ∧ SeqAt.shaped e = true then some (PyData.eqv d e) else none
  | _, _ => none
def eqP : P → P → Option Bool
  | .int i, .int j => some (decide (i = j))
  | .str x, .str y => some (decide (x = y))
  | .bl x, .bl y => some (decide (x = y))
  | .non, .non => some true
  | .non, .str _ => some false
  | .str _, .non => some false
  | a, b => deepP a b
def pEq (a b : P) : Option P := (eqP a b).map P.bl
def pNe (a b : P) : Option P := (eqP a b).map fun x => P.bl (!x)
def pLt : P → P → Option P
  | .int i, .int j => some (.bl (decide (i < j)))
  | .str x, .str y => some (.bl (decide (x.cps.toList < y.cps.toList)))
  | _, _ => none
def pLe : P → P → Option P
  | .int i, .int j => some (.bl (decide (i ≤ j)))
  | .str x, .str y => some (.bl (!decide (y.cps.toList < x.cps.toList)))
  | _, _ => none
def pGt : P → P → Option P
  | .int i, .int j => some (.bl (decide (j < i)))
  | .str x, .str y => some (.bl (decide (y.cps.toList < x.cps.toList)))
  | _, _ => none
def pGe : P → P → Option P
  | .int i, .int j => some (.bl (decide (j ≤ i)))
  | .str x, .str y => some (.bl (!decide (x.cps.toList < y.cps.toList)))
  | _, _ => none
def isNonP : P → Bool
  | .non => true
  | _ => false
def pIs : P → P → Option P
  | a, .non => some (.bl (isNonP a))
  | _, _ => none
def pIsNot : P → P → Option P
  | a, .non => some (.bl (!isNonP a))
  | _, _ => none
def P.sc : P → Bool
  | .non => true
  | .bl _ => true
  | .int _ => true
  | .str _ => true
  | _ => false
def eqS : P → P → Bool
  | .non, .non => true
  | .bl a, .bl b => a == b
  | .bl a, .int b => (if a then 1 else 0) == b
  | .int a, .bl b => a == (if b then 1 else 0)
  | .int a, .int b => a == b
  | .str a, .str b => a == b
  | _, _ => false
def inS (x : P) (xs : List P) : Bool := xs.any fun y => eqS y x
def inP (x y : P) : Option Bool := match x, y with
  | .str a, .str b => some (!(Builtin.Str.occurrences b a 0 b.length 1).isEmpty)
  | x, y => match items y with
    | some ds => if x.sc = true ∧ ds.all P.sc = true then some (inS x ds) else none
    | none => none
def pIn (a b : P) : Option P := (inP a b).map P.bl
def pNotIn (a b : P) : Option P := (inP a b).map fun x => P.bl (!x)
def pIx (a b : P) : Option P := match a, b with
  | .str z, .int i => if z.length ≤ sizeLine then match atI z.cps.toList i with
      | some c => some (.str ⟨#[c]⟩)
      | none => none
    else none
  | .scr l, .int i => atI (l.map P.int) i
  | a, .int i => match items a with
    | some ds => atI ds i
    | none => none
  | _, _ => none
def cutP (xs : List P) (lo hi : Option Int) : List P := (xs.drop (HT.sIx xs.length 0 lo)).take (HT.sIx xs.length xs.length hi - HT.sIx xs.length 0 lo)
def pSl (a : P) (lo hi : Option Int) : Option P := match a with
  | .str z => if z.length ≤ sizeLine then some (.str (cutS z lo hi)) else none
  | .tup ds => some (.tup (cutP ds lo hi))
  | .lst ds => some (.lst (cutP ds lo hi))
  | .own ds => some (.lst (cutP ds lo hi))
  | _ => none
section
variable {t : Nat}
theorem ov_cat : OpVF t gAdd pCat := fun A B S p q l a b ad ra rb e => by
  unfold pCat at e
  split at e
  · rename_i xs ys h1 h2
    split at e
    · rename_i hz
      cases e
      obtain ⟨n, ds, rfl, e1, e2⟩ := rList h1 ra
      obtain ⟨m, es, rfl, e3, e4⟩ := rList h2 rb
      refine ⟨ds ++ es, ?_, e2.app e4⟩
      unfold gAdd
      simp only [e1, e3]
      rw [if_pos (by rw [← e2.len, ← e4.len]; exact hz)]
    · cases e
  · cases e
theorem ls_cat (a : P) : Lsty (pCat a) := fun b r e => by
  unfold pCat at e
  split at e
  · split at e
    · cases e; exact ⟨_, rfl⟩
    · cases e
  · cases e
theorem ov_add : OpV t gAdd pAdd := fun A B S p q r a b ad ra rb e => by
  unfold pAdd at e
  split at e
  · cases e; rw [rInt ra, rInt rb]; exact ⟨_, [], same rfl, mInt'⟩
  · split at e
    · rename_i hz
      cases e; rw [rStr ra, rStr rb]
      exact ⟨_, [], same (by unfold gAdd; exact if_pos hz), mStr'⟩
    · cases e
  · split at e
    · rename_i hz
      cases e
      obtain ⟨ds, rfl, e1⟩ := rTup ra
      obtain ⟨es, rfl, e2⟩ := rTup rb
      exact ⟨_, [], same (by unfold gAdd; exact if_pos (by rw [← e1.len, ← e2.len]; exact hz)), Rd.nil (mTup' (e1.app e2))⟩
    · cases e
  · cases e; rw [rInt ra, rBl rb]; exact ⟨_, [], same rfl, mInt'⟩
  · exact OpVF.v ov_cat ls_cat A B S p q r a b ad ra rb e
theorem ov_iadd : OpV t gIAdd pIAdd := fun A B S p q r a b ad ra rb e => by
  unfold pIAdd at e
  split at e
  · cases e; rw [rInt ra, rInt rb]; exact ⟨_, [], same rfl, mInt'⟩
  · split at e
    · rename_i hz
      cases e; rw [rStr ra, rStr rb]
      exact ⟨_, [], same (by unfold gIAdd; exact if_pos hz), mStr'⟩
    · cases e
  · cases e
theorem ov_sub : OpV t gSub pSub := fun A B S p q r a b ad ra rb e => by
  unfold pSub at e
  split at e
  · cases e; rw [rInt ra, rInt rb]; exact ⟨_, [], same rfl, mInt'⟩
  · cases e
theorem ov_mul : OpV t gMul pMul := fun A B S p q r a b ad ra rb e => by
  unfold pMul at e
  split at e
  · split at e
    · rename_i hz
      cases e; rw [rInt ra, rInt rb]; exact ⟨_, [], same (by unfold gMul; exact if_pos hz), mInt'⟩
    · cases e
  · split at e
    · rename_i hz
      cases e; rw [rStr ra, rInt rb]; exact ⟨_, [], same (by unfold gMul; exact if_pos hz), mStr'⟩
    · cases e
  · cases e
theorem ov_fdiv : OpV t gFdiv pFdiv := fun A B S p q r a b ad ra rb e => by
  unfold pFdiv at e
  split at e
  · split at e
    · rename_i hz
      cases e; rw [rInt ra, rInt rb]; exact ⟨_, [], same (by unfold gFdiv; exact if_pos hz), mInt'⟩
    · cases e
  · cases e
theorem ov_mod : OpV t gMod pMod := fun A B S p q r a b ad ra rb e => by
  unfold pMod at e
  split at e
  · split at e
    · rename_i hz
      cases e; rw [rInt ra, rInt rb]; exact ⟨_, [], same (by unfold gMod; exact if_pos hz), mInt'⟩
    · cases e
  · cases e
mutual
theorem Rd.py {S : Sto} {B : Nat → Prop} : ∀ (p : P) (d : D) (x : PyData), Rd t S B p d → p.py = some x → d.py = some x
  | .non, _, _, h, e => by unfold Rd at h; subst h; exact e
  | .bl _, _, _, h, e => by unfold Rd at h; subst h; exact e
  | .int _, _, _, h, e => by unfold Rd at h; subst h; exact e
  | .str _, _, _, h, e => by unfold Rd at h; subst h; exact e
  | .lst _, _, _, _, e => by cases e
  | .own _, _, _, _, e => by cases e
  | .dct _, _, _, _, e => by cases e
  | .ownd _, _, _, _, e => by cases e
  | .ow2 _, _, _, _, e => by cases e
  | .rot _, _, _, _, e => by cases e
  | .scr _, _, _, _, e => by cases e
  | .exn _ _, _, _, _, e => by cases e
  | .tape, _, _, _, e => by cases e
  | .tup l, d, x, h, e => by
    unfold Rd at h
    obtain ⟨ds, rfl, h⟩ := h
    simp only [P.py] at e
    split at e
    · rename_i ps hp
      cases e
      simp only [D.py, Rds.py l ds ps h hp]
    · cases e
theorem Rds.py {S : Sto} {B : Nat → Prop} : ∀ (p : List P) (d : List D) (x : List PyData), Rds t S B p d → P.pys p = some x → D.pys d = some x
  | [], _, _, h, e => by unfold Rds at h; subst h; exact e
  | p :: ps, ds, x, h, e => by
    unfold Rds at h
    obtain ⟨d, r, rfl, h1, h2⟩ := h
    simp only [P.pys] at e
    split at e
    · rename_i a as ha has
      cases e
      simp only [D.pys, Rd.py p d a h1 ha, Rds.py ps r as h2 has]
    · cases e
end
theorem RdT.pyT {S : Sto} {A B : Nat → Prop} {p : P} {d : D} {x : PyData} (h : RdT t S A B p d) (e : pyT p = some x) : toPy S d = some x := by
  have key : ∀ l n ds, S[n]? = some (.lst ds) → Rds t S B l ds → (match P.pys l with | some ps => some (PyData.list ps) | none => none) = some x → toPy S (.ref n) = some x := fun l n ds e1 e2 e => by
    split at e
    · rename_i ps hp
      cases e
      simp only [toPy, seq_lst e1, Rds.py l ds ps e2 hp]
    · cases e
  cases p with
  | lst l =>
    obtain ⟨n, ds, rfl, e1, e2⟩ := rLst h
    exact key l n ds e1 e2 e
  | own l =>
    obtain ⟨n, ds, rfl, e1, e2⟩ := rOwn h
    exact key l n ds e1 e2 e
  | tape => cases e
  | dct _ => cases e
  | ownd _ => cases e
  | ow2 _ => cases e
  | rot _ => cases e
  | scr _ => cases e
  | exn _ _ => cases e
  | non => rw [rNon h]; exact e
  | bl _ => rw [rBl h]; exact e
  | int _ => rw [rInt h]; exact e
  | str _ => rw [rStr h]; exact e
  | tup l =>
    have h2 := Rd.py _ _ _ (RdT.rd h rfl) e
    obtain ⟨ds, rfl, _⟩ := rTup h
    exact h2
theorem deep_sim {S : Sto} {A B : Nat → Prop} {p q : P} {a b : D} {x : Bool} (ra : RdT t S A B p a) (rb : RdT t S A B q b) (h : deepP p q = some x) : deepEq a b S = some x := by
  unfold deepP at h
  split at h
  · rename_i d e h1 h2
    unfold deepEq
    rw [ra.pyT h1, rb.pyT h2]
    exact h
  · cases h
theorem eq_sim {S : Sto} {A B : Nat → Prop} {p q : P} {a b : D} {x : Bool} (ra : RdT t S A B p a) (rb : RdT t S A B q b) (h : eqP p q = some x) : eqB a b S = some x := by
  unfold eqP at h
  split at h
  · rw [rInt ra, rInt rb]; exact h
  · rw [rStr ra, rStr rb]; exact h
  · rw [rBl ra, rBl rb]; exact h
  · rw [rNon ra, rNon rb]; exact h
  · rw [rNon ra, rStr rb]; exact h
  · rw [rStr ra, rNon rb]; exact h
  · rename_i n1 n2 n3 n4 n5 n6
    have hd := deep_sim ra rb h
    unfold eqB
    split
    · cases p <;> first | (have := rStr ra; cases this; done) | (have := rBl ra; cases this; done) | (have := rNon ra; cases this; done) | (have := rTape ra; cases this; done) | (obtain ⟨_, h', _⟩ := rTup ra; cases h'; done) | (obtain ⟨_, _, h', _⟩ := rLst ra; cases h'; done) | (obtain ⟨_, _, h', _⟩ := rOwn ra; cases h'; done) | (obtain ⟨_, _, h', _⟩ := rDct ra; cases h'; done) | (obtain ⟨_, _, h', _⟩ := rOwnd ra; cases h'; done) | (obtain ⟨_, _, h', _⟩ := rOw2 ra; cases h'; done) | (obtain ⟨_, _, h', _⟩ := rRot ra; cases h'; done) | (obtain ⟨_, _, h', _⟩ := rExn ra; cases h'; done) | (obtain ⟨_, h', _⟩ := rScr ra; cases h'; done) | skip
      cases q <;> first | (have := rStr rb; cases this; done) | (have := rBl rb; cases this; done) | (have := rNon rb; cases this; done) | (have := rTape rb; cases this; done) | (obtain ⟨_, h', _⟩ := rTup rb; cases h'; done) | (obtain ⟨_, _, h', _⟩ := rLst rb; cases h'; done) | (obtain ⟨_, _, h', _⟩ := rOwn rb; cases h'; done) | (obtain ⟨_, _, h', _⟩ := rDct rb; cases h'; done) | (obtain ⟨_, _, h', _⟩ := rOwnd rb; cases h'; done) | (obtain ⟨_, _, h', _⟩ := rOw2 rb; cases h'; done) | (obtain ⟨_, _, h', _⟩ := rRot rb; cases h'; done) | (obtain ⟨_, _, h', _⟩ := rExn rb; cases h'; done) | (obtain ⟨_, h', _⟩ := rScr rb; cases h'; done) | skip
      exact (n1 _ _ rfl rfl).elim
    · cases p <;> first | (have := rInt ra; cases this; done) | (have := rBl ra; cases this; done) | (have := rNon ra; cases this; done) | (have := rTape ra; cases this; done) | (obtain ⟨_, h', _⟩ := rTup ra; cases h'; done) | (obtain ⟨_, _, h', _⟩ := rLst ra; cases h'; done) | (obtain ⟨_, _, h', _⟩ := rOwn ra; cases h'; done) | (obtain ⟨_, _, h', _⟩ := rDct ra; cases h'; done) | (obtain ⟨_, _, h', _⟩ := rOwnd ra; cases h'; done) | (obtain ⟨_, _, h', _⟩ := rOw2 ra; cases h'; done) | (obtain ⟨_, _, h', _⟩ := rRot ra; cases h'; done) | (obtain ⟨_, _, h', _⟩ := rExn ra; cases h'; done) | (obtain ⟨_, h', _⟩ := rScr ra; cases h'; done) | skip
      cases q <;> first | (have := rInt rb; cases this; done) | (have := rBl rb; cases this; done) | (have := rNon rb; cases this; done) | (have := rTape rb; cases this; done) | (obtain ⟨_, h', _⟩ := rTup rb; cases h'; done) | (obtain ⟨_, _, h', _⟩ := rLst rb; cases h'; done) | (obtain ⟨_, _, h', _⟩ := rOwn rb; cases h'; done) | (obtain ⟨_, _, h', _⟩ := rDct rb; cases h'; done) | (obtain ⟨_, _, h', _⟩ := rOwnd rb; cases h'; done) | (obtain ⟨_, _, h', _⟩ := rOw2 rb; cases h'; done) | (obtain ⟨_, _, h', _⟩ := rRot rb; cases h'; done) | (obtain ⟨_, _, h', _⟩ := rExn rb; cases h'; done) | (obtain ⟨_, h', _⟩ := rScr rb; cases h'; done) | skip
      exact (n2 _ _ rfl rfl).elim
    · cases p <;> first | (have := rInt ra; cases this; done) | (have := rStr ra; cases this; done) | (have := rNon ra; cases this; done) | (have := rTape ra; cases this; done) | (obtain ⟨_, h', _⟩ := rTup ra; cases h'; done) | (obtain ⟨_, _, h', _⟩ := rLst ra; cases h'; done) | (obtain ⟨_, _, h', _⟩ := rOwn ra; cases h'; done) | (obtain ⟨_, _, h', _⟩ := rDct ra; cases h'; done) | (obtain ⟨_, _, h', _⟩ := rOwnd ra; cases h'; done) | (obtain ⟨_, _, h', _⟩ := rOw2 ra; cases h'; done) | (obtain ⟨_, _, h', _⟩ := rRot ra; cases h'; done) | (obtain ⟨_, _, h', _⟩ := rExn ra; cases h'; done) | (obtain ⟨_, h', _⟩ := rScr ra; cases h'; done) | skip
      cases q <;> first | (have := rInt rb; cases this; done) | (have := rStr rb; cases this; done) | (have := rNon rb; cases this; done) | (have := rTape rb; cases this; done) | (obtain ⟨_, h', _⟩ := rTup rb; cases h'; done) | (obtain ⟨_, _, h', _⟩ := rLst rb; cases h'; done) | (obtain ⟨_, _, h', _⟩ := rOwn rb; cases h'; done) | (obtain ⟨_, _, h', _⟩ := rDct rb; cases h'; done) | (obtain ⟨_, _, h', _⟩ := rOwnd rb; cases h'; done) | (obtain ⟨_, _, h', _⟩ := rOw2 rb; cases h'; done) | (obtain ⟨_, _, h', _⟩ := rRot rb; cases h'; done) | (obtain ⟨_, _, h', _⟩ := rExn rb; cases h'; done) | (obtain ⟨_, h', _⟩ := rScr rb; cases h'; done) | skip
      exact (n3 _ _ rfl rfl).elim
    · cases p <;> first | (have := rInt ra; cases this; done) | (have := rStr ra; cases this; done) | (have := rBl ra; cases this; done) | (have := rTape ra; cases this; done) | (obtain ⟨_, h', _⟩ := rTup ra; cases h'; done) | (obtain ⟨_, _, h', _⟩ := rLst ra; cases h'; done) | (obtain ⟨_, _, h', _⟩ := rOwn ra; cases h'; done) | (obtain ⟨_, _, h', _⟩ := rDct ra; cases h'; done) | (obtain ⟨_, _, h', _⟩ := rOwnd ra; cases h'; done) | (obtain ⟨_, _, h', _⟩ := rOw2 ra; cases h'; done) | (obtain ⟨_, _, h', _⟩ := rRot ra; cases h'; done) | (obtain ⟨_, _, h', _⟩ := rExn ra; cases h'; done) | (obtain ⟨_, h', _⟩ := rScr ra; cases h'; done) | skip
      cases q <;> first | (have := rInt rb; cases this; done) | (have := rStr rb; cases this; done) | (have := rBl rb; cases this; done) | (have := rTape rb; cases this; done) | (obtain ⟨_, h', _⟩ := rTup rb; cases h'; done) | (obtain ⟨_, _, h', _⟩ := rLst rb; cases h'; done) | (obtain ⟨_, _, h', _⟩ := rOwn rb; cases h'; done) | (obtain ⟨_, _, h', _⟩ := rDct rb; cases h'; done) | (obtain ⟨_, _, h', _⟩ := rOwnd rb; cases h'; done) | (obtain ⟨_, _, h', _⟩ := rOw2 rb; cases h'; done) | (obtain ⟨_, _, h', _⟩ := rRot rb; cases h'; done) | (obtain ⟨_, _, h', _⟩ := rExn rb; cases h'; done) | (obtain ⟨_, h', _⟩ := rScr rb; cases h'; done) | skip
      exact (n4 rfl rfl).elim
    · cases p <;> first | (have := rInt ra; cases this; done) | (have := rStr ra; cases this; done) | (have := rBl ra; cases this; done) | (have := rTape ra; cases this; done) | (obtain ⟨_, h', _⟩ := rTup ra; cases h'; done) | (obtain ⟨_, _, h', _⟩ := rLst ra; cases h'; done) | (obtain ⟨_, _, h', _⟩ := rOwn ra; cases h'; done) | (obtain ⟨_, _, h', _⟩ := rDct ra; cases h'; done) | (obtain ⟨_, _, h', _⟩ := rOwnd ra; cases h'; done) | (obtain ⟨_, _, h', _⟩ := rOw2 ra; cases h'; done) | (obtain ⟨_, _, h', _⟩ := rRot ra; cases h'; done) | (obtain ⟨_, _, h', _⟩ := rExn ra; cases h'; done) | (obtain ⟨_, h', _⟩ := rScr ra; cases h'; done) | skip
      cases q <;> first | (have := rInt rb; cases this; done) | (have := rBl rb; cases this; done) | (have := rNon rb; cases this; done) | (have := rTape rb; cases this; done) | (obtain ⟨_, h', _⟩ := rTup rb; cases h'; done) | (obtain ⟨_, _, h', _⟩ := rLst rb; cases h'; done) | (obtain ⟨_, _, h', _⟩ := rOwn rb; cases h'; done) | (obtain ⟨_, _, h', _⟩ := rDct rb; cases h'; done) | (obtain ⟨_, _, h', _⟩ := rOwnd rb; cases h'; done) | (obtain ⟨_, _, h', _⟩ := rOw2 rb; cases h'; done) | (obtain ⟨_, _, h', _⟩ := rRot rb; cases h'; done) | (obtain ⟨_, _, h', _⟩ := rExn rb; cases h'; done) | (obtain ⟨_, h', _⟩ := rScr rb; cases h'; done) | skip
      exact (n5 _ rfl rfl).elim
    · cases p <;> first | (have := rInt ra; cases this; done) | (have := rBl ra; cases this; done) | (have := rNon ra; cases this; done) | (have := rTape ra; cases this; done) | (obtain ⟨_, h', _⟩ := rTup ra; cases h'; done) | (obtain ⟨_, _, h', _⟩ := rLst ra; cases h'; done) | (obtain ⟨_, _, h', _⟩ := rOwn ra; cases h'; done) | (obtain ⟨_, _, h', _⟩ := rDct ra; cases h'; done) | (obtain ⟨_, _, h', _⟩ := rOwnd ra; cases h'; done) | (obtain ⟨_, _, h', _⟩ := rOw2 ra; cases h'; done) | (obtain ⟨_, _, h', _⟩ := rRot ra; cases h'; done) | (obtain ⟨_, _, h', _⟩ := rExn ra; cases h'; done) | (obtain ⟨_, h', _⟩ := rScr ra; cases h'; done) | skip
      cases q <;> first | (have := rInt rb; cases this; done) | (have := rStr rb; cases this; done) | (have := rBl rb; cases this; done) | (have := rTape rb; cases this; done) | (obtain ⟨_, h', _⟩ := rTup rb; cases h'; done) | (obtain ⟨_, _, h', _⟩ := rLst rb; cases h'; done) | (obtain ⟨_, _, h', _⟩ := rOwn rb; cases h'; done) | (obtain ⟨_, _, h', _⟩ := rDct rb; cases h'; done) | (obtain ⟨_, _, h', _⟩ := rOwnd rb; cases h'; done) | (obtain ⟨_, _, h', _⟩ := rOw2 rb; cases h'; done) | (obtain ⟨_, _, h', _⟩ := rRot rb; cases h'; done) | (obtain ⟨_, _, h', _⟩ := rExn rb; cases h'; done) | (obtain ⟨_, h', _⟩ := rScr rb; cases h'; done) | skip
      exact (n6 _ rfl rfl).elim
    · exact hd
theorem ov_eq : OpV t gEq pEq := fun A B S p q r a b ad ra rb e => by
  unfold pEq at e
  cases h : eqP p q with
  | none => rw [h] at e; cases e
  | some x =>
    rw [h] at e; cases e
    exact ⟨.bl x, [], same (by unfold gEq; rw [eq_sim ra rb h]; rfl), mBl'⟩
theorem ov_ne : OpV t gNe pNe := fun A B S p q r a b ad ra rb e => by
  unfold pNe at e
  cases h : eqP p q with
  | none => rw [h] at e; cases e
  | some x =>
    rw [h] at e; cases e
    exact ⟨.bl (!x), [], same (by unfold gNe; rw [eq_sim ra rb h]; rfl), mBl'⟩
theorem ov_lt : OpV t gLt pLt := fun A B S p q r a b ad ra rb e => by
  unfold pLt at e
  split at e
  · cases e; rw [rInt ra, rInt rb]; exact ⟨_, [], same rfl, mBl'⟩
  · cases e; rw [rStr ra, rStr rb]; exact ⟨_, [], same rfl, mBl'⟩
  · cases e
theorem ov_le : OpV t gLe pLe := fun A B S p q r a b ad ra rb e => by
  unfold pLe at e
  split at e
  · cases e; rw [rInt ra, rInt rb]; exact ⟨_, [], same rfl, mBl'⟩
  · cases e; rw [rStr ra, rStr rb]; exact ⟨_, [], same rfl, mBl'⟩
  · cases e
theorem ov_gt : OpV t gGt pGt := fun A B S p q r a b ad ra rb e => by
  unfold pGt at e
  split at e
  · cases e; rw [rInt ra, rInt rb]; exact ⟨_, [], same rfl, mBl'⟩
  · cases e; rw [rStr ra, rStr rb]; exact ⟨_, [], same rfl, mBl'⟩
  · cases e
theorem ov_ge : OpV t gGe pGe := fun A B S p q r a b ad ra rb e => by
  unfold pGe at e
  split at e
  · cases e; rw [rInt ra, rInt rb]; exact ⟨_, [], same rfl, mBl'⟩
  · cases e; rw [rStr ra, rStr rb]; exact ⟨_, [], same rfl, mBl'⟩
  · cases e
theorem sc_sim {S : Sto} {A B : Nat → Prop} {p : P} {a : D} (ra : RdT t S A B p a) (h : p.sc = true) : a.flat = true := by
  cases p <;> first | cases h | skip
  · rw [rNon ra]; rfl
  · rw [rBl ra]; rfl
  · rw [rInt ra]; rfl
  · rw [rStr ra]; rfl
theorem eqS_sim {S : Sto} {A B : Nat → Prop} {p q : P} {a b : D} (ra : RdT t S A B p a) (rb : RdT t S A B q b) (h : p.sc = true) (h' : q.sc = true) : eqF a b = eqS p q := by
  cases p <;> first | cases h | skip
  all_goals (cases q <;> first | cases h' | skip)
  all_goals first | rw [rNon ra] | rw [rBl ra] | rw [rInt ra] | rw [rStr ra]
  all_goals first | rw [rNon rb] | rw [rBl rb] | rw [rInt rb] | rw [rStr rb]
  all_goals rfl
theorem inS_sim {S : Sto} {A B : Nat → Prop} {p : P} {a : D} (ra : RdT t S A B p a) (h : p.sc = true) : ∀ {l : List P} {ds : List D}, Rds t S B l ds → l.all P.sc = true → ds.all D.flat = true ∧ inF a ds = inS p l
  | [], _, q, _ => by unfold Rds at q; subst q; exact ⟨rfl, rfl⟩
  | x :: l, _, q, hl => by
    unfold Rds at q
    obtain ⟨d, r, rfl, q1, q2⟩ := q
    simp only [List.all_cons, Bool.and_eq_true] at hl
    obtain ⟨i1, i2⟩ := inS_sim ra h q2 hl.2
    have q1' : RdT t S A B x d := .of q1
    refine ⟨by rw [List.all_cons, sc_sim q1' hl.1, i1]; rfl, ?_⟩
    show (eqF d a || inF a r) = (eqS x p || inS p l)
    rw [eqS_sim q1' ra hl.1 h, i2]
theorem in_sim {S : Sto} {A B : Nat → Prop} {p q : P} {a b : D} {x : Bool} (ra : RdT t S A B p a) (rb : RdT t S A B q b) (h : inP p q = some x) : inB a b S = some x := by
  have key : ∀ l, items q = some l → p.sc = true → l.all P.sc = true → x = inS p l → (∀ y z, ¬ (a = .str y ∧ b = .str z)) → inB a b S = some x := fun l h1 h2 h3 h4 h5 => by
    obtain ⟨ds, e1, e2⟩ := RdT.items rb h1
    obtain ⟨i1, i2⟩ := inS_sim ra h2 e2 h3
    unfold inB
    split
    · exact (h5 _ _ ⟨rfl, rfl⟩).elim
    · rw [e1]
      simp only
      rw [if_pos ⟨sc_sim ra h2, i1⟩, i2, h4]
  unfold inP at h
  split at h
  · rw [rStr ra, rStr rb]; exact h
  · rename_i n1
    split at h
    · rename_i l hl
      split at h
      · rename_i hc
        cases h
        refine key l hl hc.1 hc.2 rfl fun y z e => ?_
        cases q <;> first | cases hl | skip
        · obtain ⟨_, h', _⟩ := rTup rb; rw [e.2] at h'; cases h'
        · obtain ⟨_, _, h', _⟩ := rLst rb; rw [e.2] at h'; cases h'
        · obtain ⟨_, _, h', _⟩ := rOwn rb; rw [e.2] at h'; cases h'
      · cases h
    · cases h
theorem ov_in : OpV t gIn pIn := fun A B S p q r a b ad ra rb e => by
  unfold pIn at e
  cases h : inP p q with
  | none => rw [h] at e; cases e
  | some x =>
    rw [h] at e; cases e
    exact ⟨.bl x, [], same (by unfold gIn; rw [in_sim ra rb h]; rfl), mBl'⟩
theorem ov_notin : OpV t gNotIn pNotIn := fun A B S p q r a b ad ra rb e => by
  unfold pNotIn at e
  cases h : inP p q with
  | none => rw [h] at e; cases e
  | some x =>
    rw [h] at e; cases e
    exact ⟨.bl (!x), [], same (by unfold gNotIn; rw [in_sim ra rb h]; rfl), mBl'⟩
theorem Rds.at {S : Sto} {B : Nat → Prop} {ps : List P} {ds : List D} {i : Int} {p : P} (h : Rds t S B ps ds) (e : atI ps i = some p) : ∃ d, atI ds i = some d ∧ Rd t S B p d := by
  unfold atI at e ⊢
  rw [← h.len]
  cases hn : ixN ps.length i with
  | none => rw [hn] at e; cases e
  | some j =>
    rw [hn] at e
    exact h.get e
theorem ov_ix : OpV t gIx pIx := fun A B S p q r a b ad ra rb e => by
  unfold pIx at e
  split at e
  · split at e
    · rename_i hz
      split at e
      · rename_i c hc
        cases e; rw [rStr ra, rInt rb]
        exact ⟨_, [], same (by unfold gIx; simp only; rw [if_pos hz, hc]), mStr'⟩
      · cases e
    · cases e
  · obtain ⟨n, rfl, hs⟩ := rScr ra
    obtain ⟨d, e3, e4⟩ := (rds_ints _).at e
    rw [rInt rb]
    refine ⟨d, [], same ?_, Rd.nil e4⟩
    unfold gIx
    simp only [seqOf, hs, e3]
  · rename_i n1
    split at e
    · rename_i l hl
      obtain ⟨ds, e1, e2⟩ := RdT.items ra hl
      obtain ⟨d, e3, e4⟩ := e2.at e
      rw [rInt rb]
      refine ⟨d, [], same ?_, Rd.nil e4⟩
      unfold gIx
      split
      · cases p <;> first | cases hl | skip
        · obtain ⟨_, h', _⟩ := rTup ra; cases h'
        · obtain ⟨_, _, h', _⟩ := rLst ra; cases h'
        · obtain ⟨_, _, h', _⟩ := rOwn ra; cases h'
      · rename_i h5
        cases h5
        rw [e1]
        simp only [e3]
      · rename_i h5 h6; first | exact absurd rfl (h5 _) | exact absurd rfl (h6 _) | exact absurd rfl (h5 _ _ rfl) | (exfalso; apply h5 <;> rfl) | (exfalso; apply h6 <;> rfl)
    · cases e
  · cases e
theorem Rds.cut {S : Sto} {B : Nat → Prop} {ps : List P} {ds : List D} (h : Rds t S B ps ds) (lo hi : Option Int) : Rds t S B (cutP ps lo hi) (DL.cutD ds lo hi) := by
  unfold cutP DL.cutD
  rw [h.len]
  exact (h.drop _).take _
end
end VL
namespace VL
open PySem PySem.Spec PyProof.Rows L2 RT RZ DL
/-! ### slices -/
def vOpt (f : Option (PE → Tau → AP P)) : PE → Tau → AP (Option Int) := fun pe τ => match f with
  | none => some (.ok none, τ)
  | some f => bindV (f pe τ) fun d τ1 => match d with
    | .int i => some (.ok (some i), τ1)
    | _ => none
def vSl (fa : PE → Tau → AP P) (fl fh : Option (PE → Tau → AP P)) : PE → Tau → AP P := fun pe τ => bindV (fa pe τ) fun a τ1 => bindV (vOpt fl pe τ1) fun lo τ2 => bindV (vOpt fh pe τ2) fun hi τ3 => okV (pSl a lo hi) τ3
section
variable {t s : Nat} {ns : List Int} {fa fb : Ev → Sto → Ans D} {ga gb : PE → Tau → AP P} {fs : Ev → Sto → Ans (List D)} {gs : PE → Tau → AP (List P)} {fl fh : Option (Ev → Sto → Ans D)} {gl gh : Option (PE → Tau → AP P)}
abbrev SimO (t s : Nat) (ns : List Int) (f : Option (Ev → Sto → Ans D)) (g : Option (PE → Tau → AP P)) : Prop := SimG t s ns (fun _ _ _ (a b : Option Int) => a = b) (dOpt f) (vOpt g)
theorem vo_none : SimO t s ns none none := fun A B S env pe τ a T r => Sim1.ret T rfl
theorem vo_some (h : SimE t s ns fa ga) : SimO t s ns (some fa) (some ga) := fun A B S env pe τ a T r => (h A B S env pe τ a T r).bind fun x y S1 τ1 f1 T1 q1 => by
  cases x with
  | int i => rw [rInt q1]; exact Sim1.ret T1 rfl
  | _ => exact Sim1.none
theorem sl_sim {A B : Nat → Prop} {S : Sto} {p r : P} {d : D} {lo hi : Option Int} (ad : Adm t A B S) (h : RdT t S A B p d) (e : pSl p lo hi = some r) : (∃ l ds, r = .lst l ∧ gSl d lo hi S = some (.ref S.length, S ++ [.lst ds]) ∧ Rds t S B l ds) ∨ (∃ x, gSl d lo hi S = some (x, S) ∧ Rd t S B r x ∧ ∀ l, r ≠ .lst l) := by
  unfold pSl at e
  split at e
  · split at e
    · rename_i hz
      cases e
      rw [rStr h]
      exact .inr ⟨_, by unfold gSl; exact if_pos hz, mStr', fun l z => by cases z⟩
    · cases e
  · cases e
    obtain ⟨ds, rfl, q⟩ := rTup h
    exact .inr ⟨_, rfl, mTup' (q.cut lo hi), fun l z => by cases z⟩
  · cases e
    obtain ⟨n, ds, rfl, e1, q⟩ := rLst h
    exact .inl ⟨_, DL.cutD ds lo hi, rfl, by rw [E_gSl_ref, seq_lst e1], q.cut lo hi⟩
  · cases e
    obtain ⟨n, ds, rfl, e1, q⟩ := rOwn h
    exact .inl ⟨_, DL.cutD ds lo hi, rfl, by rw [E_gSl_ref, seq_lst e1], q.cut lo hi⟩
  · cases e
theorem v_sl (ha : SimE t s ns fa ga) (hl : SimO t s ns fl gl) (hh : SimO t s ns fh gh) : SimE t s ns (dSl fa fl fh) (vSl ga gl gh) := fun A B S env pe τ a T r =>
  (ha A B S env pe τ a T r).bind fun x y S1 τ1 f1 T1 q1 => (hl A B S1 env pe τ1 (a.fr f1.len) T1 (r.fr f1 a)).bind fun x2 y2 S2 τ2 f2 T2 q2 => by
    have a2 := (a.fr f1.len).fr f2.len
    refine (hh A B S2 env pe τ2 a2 T2 ((r.fr f1 a).fr f2 (a.fr f1.len))).bind fun x3 y3 S3 τ3 f3 T3 q3 => ?_
    subst q2 q3
    intro r τ' e
    cases hs : pSl x x2 x3 with
    | none => rw [hs] at e; cases e
    | some p =>
      rw [hs] at e
      cases e
      have q1' := f3.rdt a2 (f2.rdt (a.fr f1.len) q1)
      rcases sl_sim (a2.fr f3.len) q1' hs with ⟨l, ds, rfl, e1, e2⟩ | ⟨z, e1, e2, _⟩
      · exact ⟨.ok (.ref S3.length), S3 ++ [O.lst ds], by rw [e1]; rfl, Fr.app _ _, T3.app _, show RdT t (S3 ++ [O.lst ds]) A B (.lst l) (.ref S3.length) from RdT.of (e2.lst (a2.fr f3.len))⟩
      · exact ⟨.ok z, S3, by rw [e1]; rfl, Fr.refl, T3, .of e2⟩
/-- a slice of what is a list -/
def vSlL (fa : PE → Tau → AP P) (fl fh : Option (PE → Tau → AP P)) : PE → Tau → AP P := fun pe τ => bindV (fa pe τ) fun a τ1 => bindV (vOpt fl pe τ1) fun lo τ2 => bindV (vOpt fh pe τ2) fun hi τ3 => okV (match pSl a lo hi with | some (.lst l) => some (.lst l) | _ => none) τ3
end
/-! ### calls of built-ins -/
def qTup (l : List P) : Option P := if l.length ≤ sizeLine ∧ l.any P.isOwn = false then some (.tup l) else none
def qLst (l : List P) : Option P := if l.length ≤ sizeLine ∧ l.any P.isOwn = false then some (.lst l) else none
def qInt : List P → Option P
  | [.int i] => some (.int i)
  | [.bl k] => some (.int (if k then 1 else 0))
  | _ => none
def qLen1 : P → Option P
  | .str x => if x.length ≤ sizeLine then some (.int x.length) else none
  | p => match items p with
    | some ds => some (.int ds.length)
    | none => none
def qLen : List P → Option P
  | [p] => qLen1 p
  | _ => none
def qList : List P → Option P
  | [d] => match items d with
    | some ds => some (.lst ds)
    | none => none
  | _ => none
def qTuple : List P → Option P
  | [d] => match items d with
    | some ds => some (.tup ds)
    | none => none
  | _ => none
def qStr : List P → Option P
  | [.int i] => if i.natAbs.log2 < 1920 then some (.str (Str.ofString (toString i))) else none
  | [.str x] => some (.str x)
  | _ => none
def intsP : List P → Option (List Int)
  | [] => some []
  | .int i :: ds => match intsP ds with
    | some is => some (i :: is)
    | none => none
  | _ => none
def strsP : List P → Option (List Str)
  | [] => some []
  | .str i :: ds => match strsP ds with
    | some is => some (i :: is)
    | none => none
  | _ => none
def blsP : List P → Option (List Bool)
  | [] => some []
  | .bl i :: ds => match blsP ds with
    | some is => some (i :: is)
    | none => none
  | _ => none
def qSum : List P → Option P
  | [d] => match lstOf d with
    | some ds => match intsP ds with
      | some is => some (.int is.sum)
      | none => none
    | none => none
  | _ => none
section
variable {t : Nat}
theorem rds1 {S : Sto} {A B : Nat → Prop} {p : P} {ds : List D} (h : RdTs t S A B [p] ds) : ∃ d, ds = [d] ∧ RdT t S A B p d := by
  obtain ⟨d, r, rfl, h1, h2⟩ := h
  cases h2
  exact ⟨d, rfl, h1⟩
theorem rds2 {S : Sto} {A B : Nat → Prop} {p q : P} {ds : List D} (h : RdTs t S A B [p, q] ds) : ∃ d e, ds = [d, e] ∧ RdT t S A B p d ∧ RdT t S A B q e := by
  obtain ⟨d, r, rfl, h1, h2⟩ := h
  obtain ⟨e, rfl, h3⟩ := rds1 h2
  exact ⟨d, e, rfl, h1, h3⟩
theorem cv_tup : CallV t DL.gTup qTup := fun A B S ps r ds ad h e => by
  unfold qTup at e
  split at e
  · rename_i hz
    cases e
    have q := RdTs.of ps hz.2 h
    exact ⟨_, [], same (by unfold DL.gTup; exact if_pos (by rw [← q.len]; exact hz.1)), Rd.nil (mTup' q)⟩
  · cases e
theorem cv_lst : CallVF t DL.gLst qLst := fun A B S ps l es ad h e => by
  unfold qLst at e
  split at e
  · rename_i hz
    cases e
    have q := RdTs.of ps hz.2 h
    exact ⟨es, by unfold DL.gLst; exact if_pos (by rw [← q.len]; exact hz.1), q⟩
  · cases e
theorem ls_lst : Lsty qLst := fun a r e => by
  unfold qLst at e
  split at e
  · cases e; exact ⟨_, rfl⟩
  · cases e
theorem cv_int : CallV t cInt qInt := fun A B S ps r ds ad h e => by
  unfold qInt at e
  split at e
  · cases e
    obtain ⟨d, rfl, q⟩ := rds1 h
    rw [rInt q]; exact ⟨_, [], same rfl, mInt'⟩
  · cases e
    obtain ⟨d, rfl, q⟩ := rds1 h
    rw [rBl q]; exact ⟨_, [], same rfl, mInt'⟩
  · cases e
theorem cv_len : CallV t cLen qLen := fun A B S ps r ds ad h e => by
  unfold qLen at e
  split at e
  · obtain ⟨d, rfl, q⟩ := rds1 h
    unfold qLen1 at e
    split at e
    · split at e
      · rename_i hz
        cases e
        rw [rStr q]
        exact ⟨_, [], same (by unfold cLen; exact if_pos hz), mInt'⟩
      · cases e
    · split at e
      · rename_i l hl
        cases e
        obtain ⟨es, e1, e2⟩ := q.items hl
        refine ⟨.int l.length, [], same ?_, mInt'⟩
        rw [e2.len]
        unfold cLen
        split
        · rename_i h5
          cases h5
          cases e1
        · rename_i h5; cases h5; rw [e1]
        · rename_i h5; exact (h5 _ rfl).elim
      · cases e
  · cases e
theorem cv_list : CallVF t cList qList := fun A B S ps l es ad h e => by
  unfold qList at e
  split at e
  · obtain ⟨d, rfl, q⟩ := rds1 h
    split at e
    · rename_i l hl
      cases e
      obtain ⟨es, e1, e2⟩ := q.items hl
      exact ⟨es, by rw [E_cList, e1], e2⟩
    · cases e
  · cases e
theorem ls_list : Lsty qList := fun a r e => by
  unfold qList at e
  split at e
  · split at e
    · cases e; exact ⟨_, rfl⟩
    · cases e
  · cases e
theorem cv_tuple : CallV t cTuple qTuple := fun A B S ps r ds ad h e => by
  unfold qTuple at e
  split at e
  · obtain ⟨d, rfl, q⟩ := rds1 h
    split at e
    · rename_i l hl
      cases e
      obtain ⟨es, e1, e2⟩ := q.items hl
      exact ⟨.tup es, [], same (by rw [E_cTuple, e1]), Rd.nil (mTup' e2)⟩
    · cases e
  · cases e
theorem cv_str : CallV t cStr qStr := fun A B S ps r ds ad h e => by
  unfold qStr at e
  split at e
  · split at e
    · rename_i hz
      cases e
      obtain ⟨d, rfl, q⟩ := rds1 h
      rw [rInt q]; exact ⟨_, [], same (by unfold cStr; exact if_pos hz), mStr'⟩
    · cases e
  · cases e
    obtain ⟨d, rfl, q⟩ := rds1 h
    rw [rStr q]; exact ⟨_, [], same rfl, mStr'⟩
  · cases e
theorem ints_sim {S : Sto} {B : Nat → Prop} : ∀ {l : List P} {ds : List D} {is : List Int}, Rds t S B l ds → intsP l = some is → intsOf ds = some is
  | [], _, _, q, e => by unfold Rds at q; subst q; exact e
  | p :: l, _, is, q, e => by
    unfold Rds at q
    obtain ⟨d, r, rfl, q1, q2⟩ := q
    cases p <;> first | cases e | skip
    unfold Rd at q1
    subst q1
    unfold intsP at e
    split at e
    · rename_i js hj
      cases e
      simp only [intsOf, ints_sim q2 hj]
    · cases e
theorem cv_sum : CallV t cSum qSum := fun A B S ps r ds ad h e => by
  unfold qSum at e
  split at e
  · obtain ⟨d, rfl, q⟩ := rds1 h
    split at e
    · rename_i l hl
      split at e
      · rename_i is hi
        cases e
        obtain ⟨n, es, rfl, e1, e2⟩ := rList hl q
        exact ⟨_, [], same (by simp only [cSum, seq_lst e1, ints_sim e2 hi]), mInt'⟩
      · cases e
    · cases e
  · cases e
end
/-! ### sorted(set(..)) of texts -/
def qSS (p : P) : Option P := match items p with
  | some ds => match strsP ds with
    | some xs => if xs.length ≤ 4000 then some (.lst ((sortU xs).map P.str)) else none
    | none => none
  | none => none
def vSS (fa : PE → Tau → AP P) : PE → Tau → AP P := fun pe τ => bindV (fa pe τ) fun a τ1 => okV (qSS a) τ1
/-! ### isinstance -/
def tyP : P → Option String
  | .non => some "NoneType"
  | .bl _ => some "bool"
  | .int _ => some "int"
  | .str _ => some "str"
  | .tup _ => some "tuple"
  | .lst _ => some "list"
  | .own _ => some "list"
  | .dct _ => some "dict"
  | .ownd _ => some "dict"
  | .ow2 _ => none
  | .rot _ => none
  | .scr _ => none
  | .exn _ _ => none
  | .tape => none
def vIsi (T : String) (fa : PE → Tau → AP P) : PE → Tau → AP P := fun pe τ => bindV (fa pe τ) fun a τ1 => match tyP a with
  | some n => match kitB n T with
    | some b => some (.ok (.bl b), τ1)
    | none => none
  | none => none
section
variable {t s : Nat} {ns : List Int} {fa fb : Ev → Sto → Ans D} {ga gb : PE → Tau → AP P} {fs : Ev → Sto → Ans (List D)} {gs : PE → Tau → AP (List P)} {S S' : Sto} {A B : Nat → Prop}
theorem ty_sim {p : P} {d : D} {x : String} (h : RdT t S A B p d) (e : tyP p = some x) : tyN d S = some x := by
  cases p with
  | non => rw [rNon h]; exact e
  | bl _ => rw [rBl h]; exact e
  | int _ => rw [rInt h]; exact e
  | str _ => rw [rStr h]; exact e
  | tup _ => obtain ⟨_, rfl, _⟩ := rTup h; exact e
  | lst _ => obtain ⟨n, ds, rfl, e1, _⟩ := rLst h; simp only [tyN, e1]; exact e
  | own _ => obtain ⟨n, ds, rfl, e1, _⟩ := rOwn h; simp only [tyN, e1]; exact e
  | dct _ => obtain ⟨n, ds, rfl, e1, _⟩ := rDct h; simp only [tyN, e1]; exact e
  | ownd _ => obtain ⟨n, ds, rfl, e1, _⟩ := rOwnd h; simp only [tyN, e1]; exact e
  | ow2 _ => cases e
  | rot _ => cases e
  | scr _ => cases e
  | exn _ _ => cases e
  | tape => cases e
theorem v_isi (T : String) (ha : SimE t s ns fa ga) : SimE t s ns (dIsi T fa) (vIsi T ga) := fun A B S env pe τ a T' r => (ha A B S env pe τ a T' r).bind fun x y S1 τ1 f1 T1 q1 => by
  cases hx : tyP x with
  | none => exact Sim1.none
  | some n =>
    rw [ty_sim q1 hx]
    simp only
    cases hk : kitB n T with
    | none => exact Sim1.none
    | some b => exact Sim1.ret T1 (.of mBl')
/-! ### what is walked -/
def wvSeq (fe : PE → Tau → AP P) : PE → Tau → AP (List P) := fun pe τ => bindV (fe pe τ) fun d τ1 => okV (items d) τ1
/-- the same for a loop: no own list -/
def itemsC (p : P) : Option (List P) := if p.isOwn = true then none else items p
def wvSeqC (fe : PE → Tau → AP P) : PE → Tau → AP (List P) := fun pe τ => bindV (fe pe τ) fun d τ1 => okV (itemsC d) τ1
def rangeP (lo : Int) (n : Nat) : List P := (List.range n).map fun (k : Nat) => P.int (lo + k)
noncomputable def qRange : List P → Option (List P)
  | [.int j] => if RgB j then some (rangeP 0 j.toNat) else none
  | [.int i, .int j] => if RgB i ∧ RgB j then some (rangeP i (j - i).toNat) else none
  | _ => none
noncomputable def wvRange (gs : PE → Tau → AP (List P)) : PE → Tau → AP (List P) := fun pe τ => bindV (gs pe τ) fun ps τ1 => okV (qRange ps) τ1
def wvRev (fe : PE → Tau → AP P) : PE → Tau → AP (List P) := fun pe τ => bindV (fe pe τ) fun d τ1 => okV ((items d).map List.reverse) τ1
def wvRevC (fe : PE → Tau → AP P) : PE → Tau → AP (List P) := fun pe τ => bindV (fe pe τ) fun d τ1 => okV ((itemsC d).map List.reverse) τ1
def charsP (x : Str) : List P := x.cps.toList.map fun c => P.str ⟨#[c]⟩
def wvStr (fe : PE → Tau → AP P) : PE → Tau → AP (List P) := fun pe τ => bindV (fe pe τ) fun d τ1 => match d with
  | .str x => some (.ok (charsP x), τ1)
  | _ => none
def enumP (xs : List P) : List P := (xs.zipIdx).map fun p => P.tup [.int p.2, p.1]
def qEnum : List P → Option (List P)
  | [d] => (items d).map enumP
  | _ => none
def qEnumC : List P → Option (List P)
  | [d] => (itemsC d).map enumP
  | _ => none
def wvEnum (gs : PE → Tau → AP (List P)) : PE → Tau → AP (List P) := fun pe τ => bindV (gs pe τ) fun ps τ1 => okV (qEnum ps) τ1
def wvEnumC (gs : PE → Tau → AP (List P)) : PE → Tau → AP (List P) := fun pe τ => bindV (gs pe τ) fun ps τ1 => okV (qEnumC ps) τ1
def zipP (xs ys : List P) : List P := (xs.zip ys).map fun p => P.tup [p.1, p.2]
def isTupP : P → Bool
  | .tup _ => true
  | _ => false
def qZip : List P → Option (List P)
  | [a, b] => match items a, items b with
    | some xs, some ys => if isTupP a = isTupP b then some (zipP xs ys) else none
    | _, _ => none
  | _ => none
def qZipC : List P → Option (List P)
  | [a, b] => match itemsC a, itemsC b with
    | some xs, some ys => if isTupP a = isTupP b then some (zipP xs ys) else none
    | _, _ => none
  | _ => none
def wvZip (gs : PE → Tau → AP (List P)) : PE → Tau → AP (List P) := fun pe τ => bindV (gs pe τ) fun ps τ1 => okV (qZip ps) τ1
def wvZipC (gs : PE → Tau → AP (List P)) : PE → Tau → AP (List P) := fun pe τ => bindV (gs pe τ) fun ps τ1 => okV (qZipC ps) τ1
/-- the items, and that they stay while A (B) stays -/
theorem it_weak {p : P} {d : D} {l : List P} (a : Adm t A B S) (h : RdT t S A B p d) (e : items p = some l) : ∃ ds, seqOf d S = some ds ∧ Rds t S B l ds ∧ ∀ S', (∀ n, n < S.length → A n → S'[n]? = S[n]?) → seqOf d S' = some ds := by
  cases p <;> first | cases e | skip
  · obtain ⟨ds, rfl, q⟩ := rTup h
    exact ⟨ds, rfl, q, fun _ _ => rfl⟩
  · unfold RdT Rd at h
    obtain ⟨n, ds, rfl, hb, g, q⟩ := h
    exact ⟨ds, seq_lst g, q, fun S' k => seq_lst (by rw [k n (lst_lt g) (a.sub n hb), g])⟩
  · obtain ⟨n, ds, rfl, ha, g, q⟩ := h
    exact ⟨ds, seq_lst g, q, fun S' k => seq_lst (by rw [k n (lst_lt g) ha, g])⟩
theorem it_strong {p : P} {d : D} {l : List P} (h : RdT t S A B p d) (e : itemsC p = some l) : ∃ ds, seqOf d S = some ds ∧ Rds t S B l ds ∧ ∀ S', (∀ n, n < S.length → B n → S'[n]? = S[n]?) → seqOf d S' = some ds := by
  unfold itemsC at e
  split at e
  · cases e
  · cases p <;> first | cases e | skip
    · obtain ⟨ds, rfl, q⟩ := rTup h
      exact ⟨ds, rfl, q, fun _ _ => rfl⟩
    · unfold RdT Rd at h
      obtain ⟨n, ds, rfl, hb, g, q⟩ := h
      exact ⟨ds, seq_lst g, q, fun S' k => seq_lst (by rw [k n (lst_lt g) hb, g])⟩
    · rename_i h0; exact (h0 rfl).elim
theorem wv_seq (ha : SimE t s ns fa ga) : SimIW t s ns (wSeq fa) (wvSeq ga) := fun A B S env pe τ a T r => (ha A B S env pe τ a T r).bind fun x y S1 τ1 f1 T1 q1 => by
  cases hx : items x with
  | none => exact Sim1.none
  | some l =>
    obtain ⟨ds, e1, e2, e3⟩ := it_weak (a.fr f1.len) q1 hx
    rw [e1]
    exact Sim1.ret T1 ⟨e2, e3⟩
theorem wv_seqC (ha : SimE t s ns fa ga) : SimIS t s ns (wSeq fa) (wvSeqC ga) := fun A B S env pe τ a T r => (ha A B S env pe τ a T r).bind fun x y S1 τ1 f1 T1 q1 => by
  cases hx : itemsC x with
  | none => exact Sim1.none
  | some l =>
    obtain ⟨ds, e1, e2, e3⟩ := it_strong q1 hx
    rw [e1]
    exact Sim1.ret T1 ⟨e2, e3⟩
theorem rangeRd (lo : Int) (n : Nat) : Rds t S B (rangeP lo n) (rangeL lo n) := by
  unfold rangeP rangeL
  induction (List.range n) with
  | nil => exact Rds.nil
  | cons k l ih => exact Rds.cons mInt' ih
theorem range_sim {ps : List P} {ds : List D} {l : List P} (h : RdTs t S A B ps ds) (e : qRange ps = some l) : ∃ es, Rds t S B l es ∧ (match ds with
  | [.int j] => if RgB j then some (R.ok (Wk.mk (fun _ => True) (rangeL 0 j.toNat)), S) else none
  | [.int i, .int j] => if RgB i ∧ RgB j then some (.ok ⟨fun _ => True, rangeL i (j - i).toNat⟩, S) else none
  | _ => none) = some (R.ok ⟨fun _ => True, es⟩, S) := by
  unfold qRange at e
  split at e
  · split at e
    · rename_i hb
      cases e
      obtain ⟨d, rfl, q⟩ := rds1 h
      rw [rInt q]
      exact ⟨_, rangeRd _ _, if_pos hb⟩
    · cases e
  · split at e
    · rename_i hb
      cases e
      obtain ⟨d, d2, rfl, q, q2⟩ := rds2 h
      rw [rInt q, rInt q2]
      exact ⟨_, rangeRd _ _, if_pos hb⟩
    · cases e
  · cases e
theorem wv_range (hs : SimA t s ns fs gs) : SimIS t s ns (wRange fs) (wvRange gs) := fun A B S env pe τ a T r => (hs A B S env pe τ a T r).bind fun x y S1 τ1 f1 T1 q1 => by
  cases hx : qRange x with
  | none => exact Sim1.none
  | some l =>
    obtain ⟨es, e1, e2⟩ := range_sim q1 hx
    refine fun r τ' e => ?_
    cases e
    exact ⟨_, S1, e2, Fr.refl, T1, e1, fun _ _ => trivial⟩
theorem SimIS.w {f : Ev → Sto → Ans Wk} {g : PE → Tau → AP (List P)} (h : SimIS t s ns f g) : SimIW t s ns f g := fun A B S env pe τ a T r => (h A B S env pe τ a T r).imp fun _ _ _ _ q => ⟨q.1, fun S' k => q.2 S' fun n lt b => k n lt (a.sub n b)⟩
theorem enumRd' : ∀ {l : List P} {ds : List D} (k : Nat), Rds t S B l ds → Rds t S B ((l.zipIdx k).map fun p => P.tup [.int p.2, p.1]) ((ds.zipIdx k).map fun p => D.tup [.int p.2, p.1])
  | [], _, k, q => by unfold Rds at q; subst q; exact Rds.nil
  | p :: l, _, k, q => by
    unfold Rds at q
    obtain ⟨d, r, rfl, q1, q2⟩ := q
    rw [List.zipIdx_cons, List.zipIdx_cons, List.map_cons, List.map_cons]
    exact Rds.cons (mTup' (Rds.cons mInt' (Rds.cons q1 Rds.nil))) (enumRd' (k + 1) q2)
theorem wv_enum (hs : SimA t s ns fs gs) : SimIW t s ns (wEnumA fs) (wvEnum gs) := fun A B S env pe τ a T r => (hs A B S env pe τ a T r).bind fun x y S1 τ1 f1 T1 q1 => by
  match x with
  | [p] =>
    obtain ⟨d, rfl, q⟩ := rds1 q1
    cases hx : items p with
    | none => simp only [qEnum, hx]; exact Sim1.none
    | some l =>
      obtain ⟨ds, e1, e2, e3⟩ := it_weak (a.fr f1.len) q hx
      simp only [qEnum, hx, e1]
      exact Sim1.ret T1 ⟨enumRd' 0 e2, e3⟩
  | [] => exact Sim1.none
  | _ :: _ :: _ => exact Sim1.none
/-! ### comprehensions -/
def lcV (tg : Tg) (gt : PE → Tau → AP Bool) (ge : PE → Tau → AP P) (pe : PE) : List P → Tau → Option (List P × Tau)
  | [], τ => some ([], τ)
  | x :: xs, τ => match putP tg x pe with
      | none => none
      | some pe1 => match gt pe1 τ with
        | some (.ok true, τ1) => match ge pe1 τ1 with
          | some (.ok y, τ2) => if y.isOwn = true then none else match lcV tg gt ge pe xs τ2 with
            | some (ys, τ3) => some (y :: ys, τ3)
            | none => none
          | _ => none
        | some (.ok false, τ1) => lcV tg gt ge pe xs τ1
        | _ => none
def wipeV (pe : PE) : List Nat → PE
  | [] => pe
  | v :: vs => (wipeV pe vs).set v none
def vTrue : PE → Tau → AP Bool := fun _ τ => some (.ok true, τ)
def vLc (gw : PE → Tau → AP (List P)) (tg : Tg) (gt : PE → Tau → AP Bool) (ge : PE → Tau → AP P) (vs : List Nat) : PE → Tau → AP P := fun pe τ => bindV (gw pe τ) fun l τ1 => if l.length ≤ sizeLine then match lcV tg gt ge (wipeV pe vs) l τ1 with
  | some (ps, τ2) => some (.ok (.lst ps), τ2)
  | none => none
  else none
theorem RelE.set {env : Ev} {pe : PE} (h : RelE t A B S env pe) (i : Nat) {p : P} {d : D} (q : Rd t S B p d) : RelE t A B S (env.set i (some d)) (pe.set i (some p)) := ⟨by simp [h.len], fun j x e => by
  rcases get_setS e with ⟨rfl, e, hl⟩ | ⟨ne, e⟩
  · cases e
    exact ⟨d, List.getElem?_set_self (by rw [h.len]; exact hl), .of q⟩
  · obtain ⟨d', h1, h2⟩ := h.slot j x e
    exact ⟨d', by rw [List.getElem?_set_ne (fun z => ne z.symm)]; exact h1, h2⟩⟩
theorem RelE.wipe {env : Ev} {pe : PE} (h : RelE t A B S env pe) : ∀ vs : List Nat, RelE t A B S (wipeE env vs) (wipeV pe vs)
  | [] => h
  | v :: vs => by
    have ih := RelE.wipe h vs
    refine ⟨by simp [wipeE, wipeV, ih.len], fun j x e => ?_⟩
    unfold wipeV at e
    rcases get_setS e with ⟨rfl, e, hl⟩ | ⟨ne, e⟩
    · cases e
    · obtain ⟨d', h1, h2⟩ := ih.slot j x e
      exact ⟨d', by unfold wipeE; rw [List.getElem?_set_ne (fun z => ne z.symm)]; exact h1, h2⟩
mutual
theorem putE : ∀ (tg : Tg) (p : P) (d : D) (env : Ev) (pe pe' : PE), RelE t A B S env pe → Rd t S B p d → putP tg p pe = some pe' → ∃ env', tg.put d env = some env' ∧ RelE t A B S env' pe'
  | .nm i, p, d, env, pe, pe', r, q, e => by
    unfold putP at e
    split at e
    · cases e
    · cases e
      exact ⟨_, rfl, r.set i q⟩
  | .tp l, p, d, env, pe, pe', r, q, e => by
    cases p <;> first | (simp [putP] at e; done) | skip
    unfold Rd at q
    obtain ⟨ds, rfl, q⟩ := q
    unfold putP at e
    exact putsE l _ ds env pe pe' r q e
theorem putsE : ∀ (tgs : List Tg) (ps : List P) (ds : List D) (env : Ev) (pe pe' : PE), RelE t A B S env pe → Rds t S B ps ds → putPs tgs ps pe = some pe' → ∃ env', Tg.puts tgs ds env = some env' ∧ RelE t A B S env' pe'
  | [], ps, ds, env, pe, pe', r, q, e => by
    cases ps with
    | nil =>
      unfold Rds at q
      subst q
      unfold putPs at e
      cases e
      exact ⟨env, rfl, r⟩
    | cons _ _ => simp [putPs] at e
  | tg :: tgs, ps, ds, env, pe, pe', r, q, e => by
    cases ps with
    | nil => simp [putPs] at e
    | cons p ps =>
      unfold Rds at q
      obtain ⟨d, ds', rfl, q1, q2⟩ := q
      unfold putPs at e
      split at e
      · rename_i pe1 h1
        obtain ⟨env1, k1, k2⟩ := putE tg p d env pe pe1 r q1 h1
        obtain ⟨env2, m1, m2⟩ := putsE tgs ps ds' env1 pe1 pe' k2 q2 e
        exact ⟨env2, by unfold Tg.puts; rw [k1]; exact m1, m2⟩
      · cases e
end
/-- the state within a comprehension: the new list at n -/
structure LcI (t s : Nat) (ns : List Int) (S1 : Sto) (A B : Nat → Prop) (n : Nat) (acc : List P) (S : Sto) (τ : Tau) : Prop where
  fr : Fr t S1 S
  at' : ∃ ds, S[n]? = some (.lst ds) ∧ Rds t S (fun m => B m ∧ m ≠ n) acc ds
  tp : TpOk t s ns S τ
theorem RelE.but {env : Ev} {pe : PE} {n : Nat} (h : RelE t A B S env pe) (hn : S.length ≤ n) : RelE t (fun m => A m ∧ m ≠ n) (fun m => B m ∧ m ≠ n) S env pe := ⟨h.len, fun j x e => by
  obtain ⟨d, h1, h2⟩ := h.slot j x e
  refine ⟨d, h1, ?_⟩
  have f : ∀ m ob, B m → S[m]? = some ob → (B m ∧ m ≠ n) ∧ S[m]? = some ob := fun m ob hb e => ⟨⟨hb, by have := lst_lt e; omega⟩, e⟩
  exact h2.map' (fun _ n' ob _ k2 k3 => ⟨⟨k2, by have := lst_lt k3; omega⟩, k3⟩) f⟩
theorem lc_sim {ok : Sto → Prop} {tg : Tg} {dt : Ev → Sto → Ans Bool} {de : Ev → Sto → Ans D} {gt : PE → Tau → AP Bool} {ge : PE → Tau → AP P} {env : Ev} {pe : PE} {S1 : Sto} (hsl : s < S1.length) (a : Adm t A B S1) (ht : SimT t s ns dt gt) (he : SimE t s ns de ge) (r : RelE t A B S1 env pe) (hok : ∀ S', (∀ n, n < S1.length → A n → S'[n]? = S1[n]?) → ok S') :
    ∀ (l : List P) (ds : List D) (acc : List P) (S : Sto) (τ : Tau) (ys : List P) (τ' : Tau), Rds t S1 B l ds → LcI t s ns S1 A B S1.length acc S τ → S1.length < S.length → acc.length + l.length ≤ sizeLine → lcV tg gt ge pe l τ = some (ys, τ') → ∃ S', lcD ok tg dt de env S1.length ds S = some S' ∧ LcI t s ns S1 A B S1.length (acc ++ ys) S' τ' ∧ S1.length < S'.length
  | [], ds, acc, S, τ, ys, τ', q, I, lt, hz, e => by
    unfold Rds at q
    subst q
    unfold lcV at e
    cases e
    refine ⟨S, ?_, by rw [List.append_nil]; exact I, lt⟩
    unfold lcD
    rw [if_pos (hok S fun n h1 h2 => I.fr.old n h1 (fun z => a.tape (z ▸ h2)))]
  | x :: l, ds, acc, S, τ, ys, τ', q, I, lt, hz, e => by
    unfold Rds at q
    obtain ⟨d, ds', rfl, q1, q2⟩ := q
    have okS : ok S := hok S fun n h1 h2 => I.fr.old n h1 (fun z => a.tape (z ▸ h2))
    have f0 : ∀ m ob, B m → S1[m]? = some ob → (B m ∧ m ≠ S1.length) ∧ S[m]? = some ob := fun m ob hb e => ⟨⟨hb, by have := lst_lt e; omega⟩, by rw [I.fr.old m (lst_lt e) (fun z => a.nt (z ▸ hb)), e]⟩
    have a0 : Adm t (fun m => A m ∧ m ≠ S1.length) (fun m => B m ∧ m ≠ S1.length) S := ⟨fun n h => ⟨a.new n (by omega), by omega⟩, fun n h => ⟨a.sub n h.1, h.2⟩, fun h => a.tape h.1⟩
    have r0 : RelE t (fun m => A m ∧ m ≠ S1.length) (fun m => B m ∧ m ≠ S1.length) S env pe := by
      have := r.but (Nat.le_refl S1.length)
      refine ⟨this.len, fun j z ez => ?_⟩
      obtain ⟨d, h1, h2⟩ := this.slot j z ez
      exact ⟨d, h1, h2.map' (fun _ n' ob _ k2 k3 => ⟨k2, by rw [I.fr.old n' (lst_lt k3) (fun z => a.tape (z ▸ k2.1)), k3]⟩) (fun m ob hb e => f0 m ob hb.1 e)⟩
    have q1' : Rd t S (fun m => B m ∧ m ≠ S1.length) x d := Rd.imp f0 _ _ q1
    unfold lcV at e
    cases hp : putP tg x pe with
    | none => rw [hp] at e; cases e
    | some pe1 =>
      rw [hp] at e
      simp only at e
      obtain ⟨env1, k1, k2⟩ := putE tg x d env pe pe1 r0 q1' hp
      unfold lcD
      rw [if_pos okS, k1]
      simp only
      split at e
      · rename_i τ1 hg
        obtain ⟨r1, S2, m1, f1, T1, z1⟩ := ht _ _ S env1 pe1 τ a0 I.tp k2 _ _ hg
        cases r1 with
        | ex _ => exact z1.elim
        | ok bb =>
          cases z1
          rw [m1]
          simp only
          split at e
          · rename_i y τ2 hy
            obtain ⟨r2, S3, m2, f2, T2, z2⟩ := he _ _ S2 env1 pe1 τ1 (a0.fr f1.len) T1 (k2.fr f1 a0) _ _ hy
            cases r2 with
            | ex _ => exact z2.elim
            | ok yd =>
              rw [m2]
              simp only
              split at e
              · cases e
              · rename_i no
                have no : y.isOwn = false := by simpa using no
                split at e
                · rename_i ys' τ3 hr
                  cases e
                  obtain ⟨es, g1, g2⟩ := I.at'
                  have nt : S1.length ≠ t := fun z => a.tape (a.sub t (z ▸ a.new _ (Nat.le_refl _)))
                  have g1' := f2.get nt (f1.get nt g1)
                  have g2' := f2.rds (a0.fr f1.len).nt (f1.rds a0.nt g2)
                  have z2' : Rd t S3 (fun m => B m ∧ m ≠ S1.length) y yd := RdT.rd z2 no
                  rw [g1']
                  simp only
                  have hlen := g2.len
                  rw [if_pos (by rw [List.length_cons] at hz; omega)]
                  have lt3 : S1.length < S3.length := Nat.lt_of_lt_of_le lt (Nat.le_trans f1.len f2.len)
                  have I' : LcI t s ns S1 A B S1.length (acc ++ [y]) (S3.set S1.length (.lst (es ++ [yd]))) τ2 := by
                    refine ⟨⟨by rw [List.length_set]; omega, fun m h1 h2 => ?_⟩, ⟨es ++ [yd], List.getElem?_set_self lt3, ?_⟩, ?_⟩
                    · rw [List.getElem?_set_ne (by omega), f2.old m (by have := f1.len; omega) h2, f1.old m (by omega) h2, I.fr.old m h1 h2]
                    · refine Rds.imp (fun m ob hb e => ⟨hb, ?_⟩) _ _ (g2'.app (Rds.cons z2' Rds.nil))
                      rw [List.getElem?_set_ne (fun z => hb.2 z.symm), e]
                    · exact T2.write nt (by omega)
                  obtain ⟨S', n1, n2, n3⟩ := lc_sim hsl a ht he r hok l ds' (acc ++ [y]) _ τ2 _ _ q2 I' (by rw [List.length_set]; exact lt3) (by rw [List.length_append, List.length_singleton]; rw [List.length_cons] at hz; omega) hr
                  exact ⟨S', n1, by rw [List.append_assoc] at n2; exact n2, n3⟩
                · cases e
          · cases e
      · rename_i τ1 hg
        obtain ⟨r1, S2, m1, f1, T1, z1⟩ := ht _ _ S env1 pe1 τ a0 I.tp k2 _ _ hg
        cases r1 with
        | ex _ => exact z1.elim
        | ok bb =>
          cases z1
          rw [m1]
          simp only
          obtain ⟨es, g1, g2⟩ := I.at'
          have nt : S1.length ≠ t := fun z => a.tape (a.sub t (z ▸ a.new _ (Nat.le_refl _)))
          exact lc_sim hsl a ht he r hok l ds' acc S2 τ1 ys τ' q2 ⟨I.fr.trans f1, ⟨es, f1.get nt g1, f1.rds a0.nt g2⟩, T1⟩ (Nat.lt_of_lt_of_le lt f1.len) (by rw [List.length_cons] at hz; omega) e
      · cases e
theorem v_lc {fw : Ev → Sto → Ans Wk} {gw : PE → Tau → AP (List P)} {dt : Ev → Sto → Ans Bool} {gt : PE → Tau → AP Bool} (tg : Tg) (vs : List Nat) (hw : SimIW t s ns fw gw) (ht : SimT t s ns dt gt) (he : SimE t s ns fa ga) : SimF t s ns (dLc fw tg dt fa vs) (vLc gw tg gt ga vs) := fun A B S env pe τ a T r =>
  (hw A B S env pe τ a T r).bind fun l w S1 τ1 f1 T1 q1 => by
    by_cases hz : l.length ≤ sizeLine
    · rw [if_pos hz]
      intro r2 τ' e
      cases hl : lcV tg gt ga (wipeV pe vs) l τ1 with
      | none => rw [hl] at e; cases e
      | some z =>
        obtain ⟨ys, τ2⟩ := z
        rw [hl] at e
        cases e
        have a1 := a.fr f1.len
        have nt : ∀ m, B m → m ≠ t := fun m hb z => a.nt (z ▸ hb)
        obtain ⟨S', k1, k2, k3⟩ := lc_sim (lst_lt T1.src) a1 ht he ((r.fr f1 a).wipe vs) (fun S' k => q1.2 S' k) l w.items [] (S1 ++ [.lst []]) τ1 ys _ q1.1 ⟨Fr.app _ _, ⟨[], get_last _ _, Rds.nil⟩, T1.app _⟩ (by simp) (by simpa using hz) hl
        obtain ⟨ds, g1, g2⟩ := k2.at'
        rw [List.nil_append] at g2
        refine ⟨.ok (.ref S1.length), S', by rw [k1], k2.fr, k2.tp, ys, S1.length, ds, rfl, rfl, f1.len, g1, g2⟩
    · rw [if_neg hz]
      exact Sim1.none
theorem vt_tr : SimT t s ns dTrue vTrue := vt_true
end
end VL
namespace VL
open PySem PySem.Spec PyProof.Rows L2 RT RZ DL
/-! ### dicts as values -/
def keyP : P → Option Key
  | .int i => some (.inl i)
  | .str x => some (.inr x)
  | _ => none
def kP : Key → P
  | .inl i => .int i
  | .inr x => .str x
@[simp] theorem keyP_int (i : Int) : keyP (.int i) = some (.inl i) := rfl
@[simp] theorem keyP_str (x : Str) : keyP (.str x) = some (.inr x) := rfl
@[simp] theorem keyP_kP (k : Key) : keyP (kP k) = some k := by cases k <;> rfl
def isK (k : Key) : P → Bool
  | .tup [a, _] => decide (keyP a = some k)
  | _ => false
def valK : P → P
  | .tup [_, v] => v
  | _ => .non
def withK (v : P) : P → P
  | .tup [a, _] => .tup [a, v]
  | e => e
def lookP (l : List P) (k : Key) : Option P := (l.find? (isK k)).map valK
def dputP (l : List P) (k : Key) (v : P) : List P := if l.any (isK k) = true then l.map (fun e => if isK k e = true then withK v e else e) else l ++ [.tup [kP k, v]]
mutual
def P.dd : P → Option D
  | .non => some .non
  | .bl b => some (.bl b)
  | .int i => some (.int i)
  | .str x => some (.str x)
  | .tup l => match P.dds l with
    | some ds => some (.tup ds)
    | none => none
  | _ => none
def P.dds : List P → Option (List D)
  | [] => some []
  | p :: ps => match P.dd p, P.dds ps with
    | some d, some ds => some (d :: ds)
    | _, _ => none
end
def missP (p : P) : Bool := match p.dd with
  | some d => missD d
  | none => false
def findP (l : List P) (p : P) : Option (Option P) := match keyP p with
  | some k => some (lookP l k)
  | none => if missP p = true then some none else none
def dctP : P → Option (List P)
  | .dct l => some l
  | .ownd l => some l
  | _ => none
def pInA (a b : P) : Option P := match dctP b with
  | some l => match findP l a with
    | some r => some (.bl r.isSome)
    | none => none
  | none => pIn a b
def pNotInA (a b : P) : Option P := match dctP b with
  | some l => match findP l a with
    | some r => some (.bl (!r.isSome))
    | none => none
  | none => pNotIn a b
def pIxD (a b : P) : Option P := match dctP a with
  | some l => match keyP b with
    | some k => lookP l k
    | none => none
  | none => none
/-- the keys -/
def keysP (l : List P) : List P := l.map fun e => match e with
  | .tup [a, _] => a
  | _ => .non
def qListD : List P → Option P
  | [d] => match dctP d with
    | some l => some (.lst (keysP l))
    | none => none
  | _ => none
def qLenD : List P → Option P
  | [d] => match dctP d with
    | some l => some (.int l.length)
    | none => none
  | _ => none
def pDGet : P → List P → Option P
  | a, [k] => match dctP a with
    | some l => match findP l k with
      | some r => some (r.getD .non)
      | none => none
    | none => none
  | a, [k, x] => if x.isOwn = true then none else match dctP a with
    | some l => match findP l k with
      | some r => some (r.getD x)
      | none => none
    | none => none
  | _, _ => none
/-! ### new dicts, methods, statements -/
def RdFd (t : Nat) (S0 : Sto) (B : Nat → Prop) (S : Sto) (p : P) (d : D) : Prop := ∃ l n es, p = .dct l ∧ d = .ref n ∧ S0.length ≤ n ∧ S[n]? = some (.dct es) ∧ Rds t S (fun m => B m ∧ m ≠ n) l (es.map prD)
def SimFd (t s : Nat) (ns : List Int) (f : Ev → Sto → Ans D) (g : PE → Tau → AP P) : Prop := ∀ A B S env pe τ, Adm t A B S → TpOk t s ns S τ → RelE t A B S env pe → Sim1 t s ns (RdFd t S B) B S (f env S) (g pe τ)
def vDNew : PE → Tau → AP P := fun _ τ => some (.ok (.dct []), τ)
def vAsgD (i : Nat) (ge : PE → Tau → AP P) : PE → Tau → AnsV := fun pe τ => bindSV (ge pe τ) pe fun p τ1 => match p with
  | .dct l => some (.nx, pe.set i (some (.ownd l)), τ1)
  | _ => none
def vDM (ga : PE → Tau → AP P) (gs : PE → Tau → AP (List P)) : PE → Tau → AP P := fun pe τ => bindV (ga pe τ) fun a τ1 => if (dctP a).isSome = true then bindV (gs pe τ1) fun ds τ2 => okV (pDGet a ds) τ2 else none
def vSetD (i : Nat) (ge gi : PE → Tau → AP P) : PE → Tau → AnsV := fun pe τ => bindSV (ge pe τ) pe fun p τ1 => match pe[i]? with
  | some (some (.ownd _)) => bindSV (gi pe τ1) pe fun k τ2 => if p.isOwn = true then none else match pe[i]? with
    | some (some (.ownd l)) => match keyP k with
      | some kk => if l.length < sizeLine then some (.nx, pe.set i (some (.ownd (dputP l kk p))), τ2) else none
      | none => none
    | _ => none
  | _ => none
/-- x.append(y.pop(..)) -/
def vAppPop (i j : Nat) (ge : PE → Tau → AP P) : PE → Tau → AnsV := fun pe τ => match pe[i]?, pe[j]? with
  | some (some (.own l)), some (some (.own m)) => bindSV (ge pe τ) pe fun k τ1 => match k with
    | .int k => if i ≠ j ∧ 0 ≤ k ∧ k ≤ 1000000000 ∧ l.length < sizeLine then match m[k.toNat]? with
      | some p => some (.nx, (pe.set j (some (.own (m.eraseIdx k.toNat)))).set i (some (.own (l ++ [p]))), τ1)
      | none => none
      else none
    | _ => none
  | _, _ => none
section
variable {t s : Nat} {ns : List Int} {b : Nat} {A B : Nat → Prop} {o o' : Ow} {S S' : Sto} {env env' : Ev} {pe pe' : PE} {τ τ' : Tau} {fa fe fi : Ev → Sto → Ans D} {ga ge gi : PE → Tau → AP P} {fs : Ev → Sto → Ans (List D)} {gs : PE → Tau → AP (List P)}
theorem RdFd.rd {S0 : Sto} {p : P} {d : D} (a : Adm t A B S0) (h : RdFd t S0 B S p d) : Rd t S B p d := by
  obtain ⟨l, n, ds, rfl, rfl, g, e, q⟩ := h
  unfold Rd
  exact ⟨n, ds, rfl, a.new n g, e, Rds.imp (fun n o b e => ⟨b.1, e⟩) _ _ q⟩
theorem SimFd.e {f : Ev → Sto → Ans D} {g : PE → Tau → AP P} (h : SimFd t s ns f g) : SimE t s ns f g := fun A B S env pe τ a T r => (h A B S env pe τ a T r).imp fun _ _ _ l q => .of (q.rd a)
theorem Rds.eraseIdx {ps : List P} {ds : List D} (h : Rds t S B ps ds) (k : Nat) : Rds t S B (ps.eraseIdx k) (ds.eraseIdx k) := by
  rw [List.eraseIdx_eq_take_drop_succ, List.eraseIdx_eq_take_drop_succ]
  exact (h.take _).app (h.drop _)
end
/-! ### comprehensions with two fors -/
def lcV2 (tg : Tg) (gt : PE → Tau → AP Bool) (gw1 : PE → Tau → AP (List P)) (tg1 : Tg) (gt1 : PE → Tau → AP Bool) (ge : PE → Tau → AP P) (vs1 : List Nat) (pe : PE) : List P → Nat → Tau → Option (List P × Tau)
  | [], _, τ => some ([], τ)
  | x :: xs, k, τ => match putP tg x pe with
      | none => none
      | some pe1 => match gt pe1 τ with
        | some (.ok true, τ1) => match gw1 pe1 τ1 with
          | some (.ok l1, τ2) => if k + l1.length ≤ sizeLine then match lcV tg1 gt1 ge (wipeV pe1 vs1) l1 τ2 with
            | some (ys, τ3) => match lcV2 tg gt gw1 tg1 gt1 ge vs1 pe xs (k + ys.length) τ3 with
              | some (zs, τ4) => some (ys ++ zs, τ4)
              | none => none
            | none => none
            else none
          | _ => none
        | some (.ok false, τ1) => lcV2 tg gt gw1 tg1 gt1 ge vs1 pe xs k τ1
        | _ => none
def vLc2 (gw : PE → Tau → AP (List P)) (tg : Tg) (gt : PE → Tau → AP Bool) (gw1 : PE → Tau → AP (List P)) (tg1 : Tg) (gt1 : PE → Tau → AP Bool) (ge : PE → Tau → AP P) (vs vs1 : List Nat) : PE → Tau → AP P := fun pe τ => bindV (gw pe τ) fun l τ1 => match lcV2 tg gt gw1 tg1 gt1 ge vs1 (wipeV pe vs) l 0 τ1 with
  | some (ps, τ2) => some (.ok (.lst ps), τ2)
  | none => none
/-- the state within a comprehension: the list at n, the base S1 -/
structure LcG (t s : Nat) (ns : List Int) (S1 : Sto) (B : Nat → Prop) (n : Nat) (acc : List P) (S : Sto) (τ : Tau) : Prop where
  len : S1.length ≤ S.length
  old : ∀ m, m < S1.length → m ≠ t → m ≠ n → S[m]? = S1[m]?
  at' : ∃ ds, S[n]? = some (.lst ds) ∧ Rds t S B acc ds
  tp : TpOk t s ns S τ
section
variable {t s : Nat} {ns : List Int} {A B : Nat → Prop} {n : Nat} {S1 : Sto}
theorem LcG.rdt {acc : List P} {S : Sto} {τ : Tau} (I : LcG t s ns S1 B n acc S τ) (a : Adm t A B S1) (nA : ¬ A n) {p : P} {d : D} (h : RdT t S1 A B p d) : RdT t S A B p d :=
  h.map' (fun _ m ob _ x e => ⟨x, by rw [I.old m (lst_lt e) (fun z => a.tape (z ▸ x)) (fun z => nA (z ▸ x)), e]⟩) (fun m ob b e => ⟨b, by rw [I.old m (lst_lt e) (fun z => a.nt (z ▸ b)) (fun z => nA (a.sub n (z ▸ b))), e]⟩)
theorem LcG.rds {acc : List P} {S : Sto} {τ : Tau} (I : LcG t s ns S1 B n acc S τ) (a : Adm t A B S1) (nA : ¬ A n) {p : List P} {d : List D} (h : Rds t S1 B p d) : Rds t S B p d :=
  Rds.imp (fun m ob b e => ⟨b, by rw [I.old m (lst_lt e) (fun z => a.nt (z ▸ b)) (fun z => nA (a.sub n (z ▸ b))), e]⟩) _ _ h
theorem LcG.fr {acc : List P} {S S' : Sto} {τ τ' : Tau} (I : LcG t s ns S1 B n acc S τ) (nB : ¬ B t) (nt : n ≠ t) (f : Fr t S S') (T : TpOk t s ns S' τ') : LcG t s ns S1 B n acc S' τ' := ⟨Nat.le_trans I.len f.len, fun m h1 h2 h3 => by rw [f.old m (Nat.lt_of_lt_of_le h1 I.len) h2, I.old m h1 h2 h3], by
  obtain ⟨ds, g1, g2⟩ := I.at'
  exact ⟨ds, f.get nt g1, f.rds nB g2⟩, T⟩
end
end VL
namespace VL
open PySem PySem.Spec PyProof.Rows L2 RT RZ DL
/-! ### tuples whose object is known, dict(..) of pairs, displays -/
def qTupleX : List P → Option P
  | [p] => match lstOf p with
    | some l => some (.rot l)
    | none => none
  | _ => none
def rotP : P → Option (List P)
  | .rot l => some l
  | _ => none
def wvSeqX (fe : PE → Tau → AP P) : PE → Tau → AP (List P) := fun pe τ => bindV (fe pe τ) fun d τ1 => okV (rotP d) τ1
def isPr : P → Bool
  | .tup [k, _] => (keyP k).isSome
  | _ => false
def putE' (acc : List P) : P → List P
  | .tup [k, v] => match keyP k with
    | some kk => dputP acc kk v
    | none => acc
  | _ => acc
def mergeP (acc l : List P) : List P := l.foldl putE' acc
def qDictX : List P → Option P
  | [p] => match rotP p with
    | some l => if l.all isPr = true then some (.dct (mergeP [] l)) else none
    | none => none
  | _ => none
def pDZip (a b : P) : Option P := match a, b with
  | .tup xs, .tup ys => if (zipP xs ys).all isPr = true then some (.dct (mergeP [] (zipP xs ys))) else none
  | _, _ => none
def vPairs : List ((PE → Tau → AP P) × (PE → Tau → AP P)) → PE → Tau → AP (List P)
  | [], _, τ => some (.ok [], τ)
  | p :: r, pe, τ => bindV (p.1 pe τ) fun k τ1 => bindV (p.2 pe τ1) fun v τ2 => if k.isOwn = true ∨ v.isOwn = true then none else bindV (vPairs r pe τ2) fun l τ3 => some (.ok (.tup [k, v] :: l), τ3)
def vDisp (gs : List ((PE → Tau → AP P) × (PE → Tau → AP P))) : PE → Tau → AP P := fun pe τ => bindV (vPairs gs pe τ) fun l τ1 => if l.all isPr = true ∧ l.length ≤ 15 then some (.ok (.dct (mergeP [] l)), τ1) else none
section
variable {t s : Nat} {ns : List Int} {S : Sto} {A B : Nat → Prop} {fa : Ev → Sto → Ans D} {ga : PE → Tau → AP P}
theorem Rds.rot {l : List P} {ds : List D} (a : Adm t A B S) (h : Rds t S B l ds) : Rd t (S ++ [.rot ds]) B (.rot l) (.ref S.length) := by
  unfold Rd
  exact ⟨S.length, ds, rfl, a.new _ (Nat.le_refl _), get_last _ _, Rds.imp (fun n o b e => ⟨b, get_old e⟩) _ _ h⟩
theorem Rds.dct {l : List P} {es : List (D × D)} (a : Adm t A B S) (h : Rds t S B l (es.map prD)) : Rd t (S ++ [.dct es]) B (.dct l) (.ref S.length) := by
  unfold Rd
  exact ⟨S.length, es, rfl, a.new _ (Nat.le_refl _), get_last _ _, Rds.imp (fun n o b e => ⟨b, get_old e⟩) _ _ h⟩
end
/-! ### x = y: the variable's own list goes over -/
def vMove (i j : Nat) : PE → Tau → AnsV := fun pe τ => match pe[j]? with
  | some (some p) => if p.isOwn = true ∧ i ≠ j then some (.nx, (pe.set i (some p)).set j none, τ) else none
  | _ => none
/-! ### lending a variable's own list to an expression that gives no list -/
def flatA : AP P → AP P
  | some (.ok p, τ) => if p.flat = true then some (.ok p, τ) else none
  | _ => none
def vLend (i : Nat) (ge : PE → Tau → AP P) : PE → Tau → AP P := fun pe τ => flatA (ge (thawAt i pe) τ)
end VL
namespace VL
open PySem PySem.Spec PyProof.Rows L2 RT RZ DL
/-! ### how the computations go on, for simp -/
section
variable {α β : Type} {τ τ' : Tau} {pe pe' : PE} {fa fb : PE → Tau → AP P} {fs gs : PE → Tau → AP (List P)} {ga gb : PE → Tau → AP Bool} {f g : PE → Tau → AnsV}
@[simp] theorem W_bind_ok (a : α) (k : α → Tau → AP β) : bindV (some (.ok a, τ)) k = k a τ := rfl
@[simp] theorem W_bind_none (k : α → Tau → AP β) : bindV none k = none := rfl
@[simp] theorem W_bind_ex (x : XP) (k : α → Tau → AP β) : bindV (some (.ex x, τ)) k = some (.ex x, τ) := rfl
@[simp] theorem W_bindS_ok (a : α) (k : α → Tau → AnsV) : bindSV (some (.ok a, τ)) pe k = k a τ := rfl
@[simp] theorem W_bindS_none (k : α → Tau → AnsV) : bindSV none pe k = none := rfl
@[simp] theorem W_bindS_ex (x : XP) (k : α → Tau → AnsV) : bindSV (some (.ex x, τ)) pe k = some (.ex x, pe, τ) := rfl
@[simp] theorem W_ok_some (a : α) : okV (some a) τ = some (.ok a, τ) := rfl
@[simp] theorem W_ok_none : okV (none : Option α) τ = none := rfl
@[simp] theorem W_var (i : Nat) : vVar i pe τ = match pe[i]? with
  | some (some p) => some (.ok p, τ)
  | _ => none := rfl
@[simp] theorem W_c (p : P) : vC p pe τ = some (.ok p, τ) := rfl
@[simp] theorem W_op (h : P → P → Option P) : vOp h fa fb pe τ = bindV (fa pe τ) fun a τ1 => bindV (fb pe τ1) fun b τ2 => okV (h a b) τ2 := rfl
@[simp] theorem W_un (h : P → Option P) : vUn h fa pe τ = bindV (fa pe τ) fun a τ1 => okV (h a) τ1 := rfl
@[simp] theorem W_nil : vNil pe τ = some (.ok [], τ) := rfl
@[simp] theorem W_cons : vCons fa fs pe τ = bindV (fa pe τ) fun a τ1 => bindV (fs pe τ1) fun r τ2 => some (.ok (a :: r), τ2) := rfl
@[simp] theorem W_cb (h : List P → Option P) : vCB h fs pe τ = bindV (fs pe τ) fun ds τ1 => okV (h ds) τ1 := rfl
@[simp] theorem W_ss : vSS fa pe τ = bindV (fa pe τ) fun a τ1 => okV (qSS a) τ1 := rfl
@[simp] theorem W_tru : vTru fa pe τ = bindV (fa pe τ) fun a τ1 => okV (truP a) τ1 := rfl
@[simp] theorem W_and : vAnd ga gb pe τ = bindV (ga pe τ) fun a τ1 => if a = true then gb pe τ1 else some (.ok false, τ1) := rfl
@[simp] theorem W_or : vOr ga gb pe τ = bindV (ga pe τ) fun a τ1 => if a = true then some (.ok true, τ1) else gb pe τ1 := rfl
@[simp] theorem W_not : vNot ga pe τ = bindV (ga pe τ) fun a τ1 => some (.ok (!a), τ1) := rfl
@[simp] theorem W_andV : vAndV fa fb pe τ = bindV (fa pe τ) fun a τ1 => bindV (okV (truP a) τ1) fun c τ1 => if c = true then fb pe τ1 else some (.ok a, τ1) := rfl
@[simp] theorem W_orV : vOrV fa fb pe τ = bindV (fa pe τ) fun a τ1 => bindV (okV (truP a) τ1) fun c τ1 => if c = true then some (.ok a, τ1) else fb pe τ1 := rfl
@[simp] theorem W_notV : vNotV fa pe τ = bindV (fa pe τ) fun a τ1 => bindV (okV (truP a) τ1) fun c τ1 => some (.ok (.bl (!c)), τ1) := rfl
@[simp] theorem W_if : vIf ga fa fb pe τ = bindV (ga pe τ) fun c τ1 => if c = true then fa pe τ1 else fb pe τ1 := rfl
@[simp] theorem W_bl : vBl fa pe τ = bindV (fa pe τ) fun a τ1 => okV (pBl a) τ1 := rfl
@[simp] theorem W_pBl (b : Bool) : pBl (.bl b) = some b := rfl
@[simp] theorem W_call (G : MirV) : vCall G gs pe τ = bindV (gs pe τ) fun ps τ1 => vCallP G ps τ1 := rfl
@[simp] theorem W_callD (G : MirV) (dd : List P) : vCallD G dd gs pe τ = bindV (gs pe τ) fun ps τ1 => vCallP G (ps ++ dd) τ1 := rfl
@[simp] theorem W_callK (G : MirV) (n k : Nat) : vCallK G n k gs fs pe τ = bindV (gs pe τ) fun ps τ1 => bindV (fs pe τ1) fun qs τ2 => if ps.length = n ∧ qs.length = k then vCallP G (ps ++ qs) τ2 else none := rfl
@[simp] theorem W_isi (T : String) : vIsi T fa pe τ = bindV (fa pe τ) fun a τ1 => match tyP a with
  | some n => match kitB n T with
    | some b => some (.ok (.bl b), τ1)
    | none => none
  | none => none := rfl
@[simp] theorem W_opt_none : vOpt none pe τ = some (.ok none, τ) := rfl
@[simp] theorem W_opt_some : vOpt (some fa) pe τ = bindV (fa pe τ) fun d τ1 => match d with
    | .int i => some (.ok (some i), τ1)
    | _ => none := rfl
@[simp] theorem W_sl (fl fh : Option (PE → Tau → AP P)) : vSl fa fl fh pe τ = bindV (fa pe τ) fun a τ1 => bindV (vOpt fl pe τ1) fun lo τ2 => bindV (vOpt fh pe τ2) fun hi τ3 => okV (pSl a lo hi) τ3 := rfl
@[simp] theorem W_slL (fl fh : Option (PE → Tau → AP P)) : vSlL fa fl fh pe τ = bindV (fa pe τ) fun a τ1 => bindV (vOpt fl pe τ1) fun lo τ2 => bindV (vOpt fh pe τ2) fun hi τ3 => okV (match pSl a lo hi with | some (.lst l) => some (.lst l) | _ => none) τ3 := rfl
@[simp] theorem W_true : vTrue pe τ = some (.ok true, τ) := rfl
@[simp] theorem W_next : vNext pe τ = some (.nx, pe, τ) := rfl
@[simp] theorem W_break : vBreak pe τ = some (.bk, pe, τ) := rfl
@[simp] theorem W_cont : vCont pe τ = some (.ct, pe, τ) := rfl
@[simp] theorem W_seq : vSeq f g pe τ = match f pe τ with
  | some (.nx, pe1, τ1) => g pe1 τ1
  | x => x := rfl
@[simp] theorem W_asg (tg : Tg) : vAsg tg fa pe τ = bindSV (fa pe τ) pe fun p τ1 => match putP tg p pe with
  | some pe1 => some (.nx, pe1, τ1)
  | none => none := rfl
@[simp] theorem W_asgO (i : Nat) : vAsgO i fa pe τ = bindSV (fa pe τ) pe fun p τ1 => match p with
  | .lst l => some (.nx, pe.set i (some (.own l)), τ1)
  | _ => none := rfl
@[simp] theorem W_thaw (i : Nat) : vThaw i g pe τ = g (thawAt i pe) τ := rfl
@[simp] theorem W_thawAt (i : Nat) : thawAt i pe = match pe[i]? with
  | some (some p) => if p.isOwn = true then pe.set i (some p.thaw) else pe
  | _ => pe := rfl
@[simp] theorem W_dnew : vDNew pe τ = some (.ok (.dct []), τ) := rfl
@[simp] theorem W_asgD (i : Nat) : vAsgD i fa pe τ = bindSV (fa pe τ) pe fun p τ1 => match p with
  | .dct l => some (.nx, pe.set i (some (.ownd l)), τ1)
  | _ => none := rfl
@[simp] theorem W_dm : vDM fa gs pe τ = bindV (fa pe τ) fun a τ1 => if (dctP a).isSome = true then bindV (gs pe τ1) fun ds τ2 => okV (pDGet a ds) τ2 else none := rfl
@[simp] theorem W_setD (i : Nat) : vSetD i fa fb pe τ = bindSV (fa pe τ) pe fun p τ1 => match pe[i]? with
  | some (some (.ownd _)) => bindSV (fb pe τ1) pe fun k τ2 => if p.isOwn = true then none else match pe[i]? with
    | some (some (.ownd l)) => match keyP k with
      | some kk => if l.length < sizeLine then some (.nx, pe.set i (some (.ownd (dputP l kk p))), τ2) else none
      | none => none
    | _ => none
  | _ => none := rfl
@[simp] theorem W_appPop (i j : Nat) : vAppPop i j fa pe τ = match pe[i]?, pe[j]? with
  | some (some (.own l)), some (some (.own m)) => bindSV (fa pe τ) pe fun k τ1 => match k with
    | .int k => if i ≠ j ∧ 0 ≤ k ∧ k ≤ 1000000000 ∧ l.length < sizeLine then match m[k.toNat]? with
      | some p => some (.nx, (pe.set j (some (.own (m.eraseIdx k.toNat)))).set i (some (.own (l ++ [p]))), τ1)
      | none => none
      else none
    | _ => none
  | _, _ => none := rfl
@[simp] theorem W_lc2 (gw gw1 : PE → Tau → AP (List P)) (tg tg1 : Tg) (gb : PE → Tau → AP Bool) (vs vs1 : List Nat) : vLc2 gw tg ga gw1 tg1 gb fa vs vs1 pe τ = bindV (gw pe τ) fun l τ1 => match lcV2 tg ga gw1 tg1 gb fa vs1 (wipeV pe vs) l 0 τ1 with
  | some (ps, τ2) => some (.ok (.lst ps), τ2)
  | none => none := rfl
@[simp] theorem W_wseqX : wvSeqX fa pe τ = bindV (fa pe τ) fun d τ1 => okV (rotP d) τ1 := rfl
@[simp] theorem rotP_rot (l : List P) : rotP (.rot l) = some l := rfl
@[simp] theorem own_rot (l : List P) : (P.rot l).isOwn = false := rfl
@[simp] theorem thaw_rot (l : List P) : (P.rot l).thaw = .rot l := rfl
@[simp] theorem qTupleX_one (p : P) : qTupleX [p] = match lstOf p with
    | some l => some (.rot l)
    | none => none := rfl
@[simp] theorem lstOf_lst (l : List P) : lstOf (.lst l) = some l := rfl
@[simp] theorem lstOf_own (l : List P) : lstOf (.own l) = some l := rfl
@[simp] theorem qDictX_rot (l : List P) : qDictX [.rot l] = if l.all isPr = true then some (.dct (mergeP [] l)) else none := rfl
@[simp] theorem W_disp (gs : List ((PE → Tau → AP P) × (PE → Tau → AP P))) : vDisp gs pe τ = bindV (vPairs gs pe τ) fun l τ1 => if l.all isPr = true ∧ l.length ≤ 15 then some (.ok (.dct (mergeP [] l)), τ1) else none := rfl
@[simp] theorem W_pairs0 : vPairs [] pe τ = some (.ok [], τ) := rfl
@[simp] theorem W_pairs1 (p : (PE → Tau → AP P) × (PE → Tau → AP P)) (r : List ((PE → Tau → AP P) × (PE → Tau → AP P))) : vPairs (p :: r) pe τ = bindV (p.1 pe τ) fun k τ1 => bindV (p.2 pe τ1) fun v τ2 => if k.isOwn = true ∨ v.isOwn = true then none else bindV (vPairs r pe τ2) fun l τ3 => some (.ok (.tup [k, v] :: l), τ3) := rfl
@[simp] theorem pDZip_tup (xs ys : List P) : pDZip (.tup xs) (.tup ys) = if (zipP xs ys).all isPr = true then some (.dct (mergeP [] (zipP xs ys))) else none := rfl
@[simp] theorem W_move (i j : Nat) : vMove i j pe τ = match pe[j]? with
  | some (some p) => if p.isOwn = true ∧ i ≠ j then some (.nx, (pe.set i (some p)).set j none, τ) else none
  | _ => none := rfl
@[simp] theorem W_lend (i : Nat) : vLend i fa pe τ = flatA (fa (thawAt i pe) τ) := rfl
@[simp] theorem flatA_int (i : Int) : flatA (some (.ok (.int i), τ)) = some (.ok (.int i), τ) := rfl
@[simp] theorem flatA_bl (i : Bool) : flatA (some (.ok (.bl i), τ)) = some (.ok (.bl i), τ) := rfl
@[simp] theorem dctP_dct (l : List P) : dctP (.dct l) = some l := rfl
@[simp] theorem dctP_ownd (l : List P) : dctP (.ownd l) = some l := rfl
@[simp] theorem own_dct (l : List P) : (P.dct l).isOwn = false := rfl
@[simp] theorem own_ownd (l : List P) : (P.ownd l).isOwn = true := rfl
@[simp] theorem thaw_dct (l : List P) : (P.dct l).thaw = .dct l := rfl
@[simp] theorem thaw_ownd (l : List P) : (P.ownd l).thaw = .dct l := rfl
@[simp] theorem qListD_one (p : P) : qListD [p] = match dctP p with
    | some l => some (.lst (keysP l))
    | none => none := rfl
@[simp] theorem qLenD_one (p : P) : qLenD [p] = match dctP p with
    | some l => some (.int l.length)
    | none => none := rfl
@[simp] theorem pInA_dct (p : P) (l : List P) : pInA p (.dct l) = match findP l p with
    | some r => some (.bl r.isSome)
    | none => none := rfl
@[simp] theorem pInA_ownd (p : P) (l : List P) : pInA p (.ownd l) = match findP l p with
    | some r => some (.bl r.isSome)
    | none => none := rfl
@[simp] theorem pNotInA_dct (p : P) (l : List P) : pNotInA p (.dct l) = match findP l p with
    | some r => some (.bl (!r.isSome))
    | none => none := rfl
@[simp] theorem pNotInA_ownd (p : P) (l : List P) : pNotInA p (.ownd l) = match findP l p with
    | some r => some (.bl (!r.isSome))
    | none => none := rfl
@[simp] theorem pDGet_one (a k : P) : pDGet a [k] = match dctP a with
    | some l => match findP l k with
      | some r => some (r.getD .non)
      | none => none
    | none => none := rfl
@[simp] theorem pDGet_two (a k x : P) : pDGet a [k, x] = if x.isOwn = true then none else match dctP a with
    | some l => match findP l k with
      | some r => some (r.getD x)
      | none => none
    | none => none := rfl
@[simp] theorem pIxD_str (a : P) (x : Str) : pIxD a (.str x) = match dctP a with
    | some l => lookP l (.inr x)
    | none => none := rfl
@[simp] theorem findP_str (l : List P) (x : Str) : findP l (.str x) = some (lookP l (.inr x)) := rfl
@[simp] theorem findP_int (l : List P) (x : Int) : findP l (.int x) = some (lookP l (.inl x)) := rfl
@[simp] theorem findP_non (l : List P) : findP l .non = some none := rfl
@[simp] theorem W_expr : vExpr fa pe τ = bindSV (fa pe τ) pe fun _ τ1 => some (.nx, pe, τ1) := rfl
@[simp] theorem W_ret : vRet fa pe τ = bindSV (fa pe τ) pe fun p τ1 => some (.rt p.thaw, pe, τ1) := rfl
@[simp] theorem W_retN : vRetN pe τ = some (.rt .non, pe, τ) := rfl
@[simp] theorem W_ifS : vIfS ga f g pe τ = bindSV (ga pe τ) pe fun c τ1 => if c = true then f pe τ1 else g pe τ1 := rfl
@[simp] theorem W_for (gi : PE → Tau → AP (List P)) (tg : Tg) : vFor gi tg g pe τ = bindSV (gi pe τ) pe fun l τ1 => forV tg g l pe τ1 := rfl
@[simp] theorem W_append (i : Nat) : vAppend i fa pe τ = match pe[i]? with
  | some (some (.own _)) => bindSV (fa pe τ) pe fun p τ1 => if p.isOwn = true then none else match pe[i]? with
    | some (some (.own l)) => if l.length < sizeLine then some (.nx, pe.set i (some (.own (l ++ [p]))), τ1) else none
    | _ => none
  | _ => none := rfl
@[simp] theorem W_popS (i : Nat) : vPopS i pe τ = match pe[i]? with
  | some (some (.own l)) => if l.length = 0 then none else some (.nx, pe.set i (some (.own l.dropLast)), τ)
  | _ => none := rfl
@[simp] theorem W_setI (i : Nat) : vSetI i fa fb pe τ = bindSV (fa pe τ) pe fun p τ1 => match pe[i]? with
  | some (some (.own _)) => bindSV (fb pe τ1) pe fun k τ2 => if p.isOwn = true then none else match pe[i]?, k with
    | some (some (.own l)), .int k => match ixN l.length k with
      | some j => some (.nx, pe.set i (some (.own (l.set j p))), τ2)
      | none => none
    | _, _ => none
  | _ => none := rfl
@[simp] theorem W_aug (i : Nat) (h : P → P → Option P) : vAug i h fa pe τ = match pe[i]? with
  | some (some x) => bindSV (fa pe τ) pe fun y τ1 => match h x y with
    | some z => if z.isOwn = true then none else some (.nx, pe.set i (some z), τ1)
    | none => none
  | _ => none := rfl
@[simp] theorem W_put_nm (i : Nat) (p : P) : putP (.nm i) p pe = if p.isOwn = true then none else some (pe.set i (some p)) := rfl
@[simp] theorem W_put_tp (l : List Tg) (ps : List P) : putP (.tp l) (.tup ps) pe = putPs l ps pe := rfl
@[simp] theorem W_puts_nil : putPs [] [] pe = some pe := rfl
@[simp] theorem W_puts_cons (t : Tg) (ts : List Tg) (p : P) (ps : List P) : putPs (t :: ts) (p :: ps) pe = match putP t p pe with
    | some pe1 => putPs ts ps pe1
    | none => none := rfl
@[simp] theorem W_run (n m : Nat) (ps : List P) : runV n m f ps τ = if ps.length = n then match f (ps.map some ++ List.replicate (m - n) none) τ with
    | some (.nx, _, τ') => some (.ok .non, τ')
    | some (.rt p, _, τ') => some (.ok p, τ')
    | some (.ex e, _, τ') => some (.ex e, τ')
    | _ => none
  else none := rfl
@[simp] theorem W_wipe0 : wipeV pe [] = pe := rfl
@[simp] theorem W_wipe1 (v : Nat) (vs : List Nat) : wipeV pe (v :: vs) = (wipeV pe vs).set v none := rfl
@[simp] theorem W_lc (gw : PE → Tau → AP (List P)) (tg : Tg) (vs : List Nat) : vLc gw tg ga fa vs pe τ = bindV (gw pe τ) fun l τ1 => if l.length ≤ sizeLine then match lcV tg ga fa (wipeV pe vs) l τ1 with
  | some (ps, τ2) => some (.ok (.lst ps), τ2)
  | none => none
  else none := rfl
@[simp] theorem W_wseq : wvSeq fa pe τ = bindV (fa pe τ) fun d τ1 => okV (items d) τ1 := rfl
@[simp] theorem W_wseqC : wvSeqC fa pe τ = bindV (fa pe τ) fun d τ1 => okV (itemsC d) τ1 := rfl
@[simp] theorem W_wrange : wvRange gs pe τ = bindV (gs pe τ) fun ps τ1 => okV (qRange ps) τ1 := rfl
@[simp] theorem W_wrev : wvRev fa pe τ = bindV (fa pe τ) fun d τ1 => okV ((items d).map List.reverse) τ1 := rfl
@[simp] theorem W_wrevC : wvRevC fa pe τ = bindV (fa pe τ) fun d τ1 => okV ((itemsC d).map List.reverse) τ1 := rfl
@[simp] theorem W_wstr : wvStr fa pe τ = bindV (fa pe τ) fun d τ1 => match d with
  | .str x => some (.ok (charsP x), τ1)
  | _ => none := rfl
@[simp] theorem W_wenum : wvEnum gs pe τ = bindV (gs pe τ) fun ps τ1 => okV (qEnum ps) τ1 := rfl
@[simp] theorem W_wenumC : wvEnumC gs pe τ = bindV (gs pe τ) fun ps τ1 => okV (qEnumC ps) τ1 := rfl
@[simp] theorem W_wzip : wvZip gs pe τ = bindV (gs pe τ) fun ps τ1 => okV (qZip ps) τ1 := rfl
@[simp] theorem W_wzipC : wvZipC gs pe τ = bindV (gs pe τ) fun ps τ1 => okV (qZipC ps) τ1 := rfl
@[simp] theorem W_qEnum (p : P) : qEnum [p] = (items p).map enumP := rfl
@[simp] theorem W_qEnumC (p : P) : qEnumC [p] = (itemsC p).map enumP := rfl
@[simp] theorem W_qRange1 (j : Int) : qRange [.int j] = if RgB j then some (rangeP 0 j.toNat) else none := rfl
@[simp] theorem W_qRange2 (i j : Int) : qRange [.int i, .int j] = if RgB i ∧ RgB j then some (rangeP i (j - i).toNat) else none := rfl
/-! own or not -/
@[simp] theorem own_non : P.isOwn .non = false := rfl
@[simp] theorem own_bl (b : Bool) : P.isOwn (.bl b) = false := rfl
@[simp] theorem own_int (b : Int) : P.isOwn (.int b) = false := rfl
@[simp] theorem own_str (b : Str) : P.isOwn (.str b) = false := rfl
@[simp] theorem own_tup (b : List P) : P.isOwn (.tup b) = false := rfl
@[simp] theorem own_lst (b : List P) : P.isOwn (.lst b) = false := rfl
@[simp] theorem own_own (b : List P) : P.isOwn (.own b) = true := rfl
@[simp] theorem own_tape : P.isOwn .tape = false := rfl
@[simp] theorem thaw_own (b : List P) : P.thaw (.own b) = .lst b := rfl
@[simp] theorem thaw_non : P.thaw .non = .non := rfl
@[simp] theorem thaw_bl (b : Bool) : P.thaw (.bl b) = .bl b := rfl
@[simp] theorem thaw_int (b : Int) : P.thaw (.int b) = .int b := rfl
@[simp] theorem thaw_str (b : Str) : P.thaw (.str b) = .str b := rfl
@[simp] theorem thaw_tup (b : List P) : P.thaw (.tup b) = .tup b := rfl
@[simp] theorem thaw_lst (b : List P) : P.thaw (.lst b) = .lst b := rfl
@[simp] theorem items_tup (l : List P) : items (.tup l) = some l := rfl
@[simp] theorem items_lst (l : List P) : items (.lst l) = some l := rfl
@[simp] theorem items_own (l : List P) : items (.own l) = some l := rfl
@[simp] theorem itemsC_tup (l : List P) : itemsC (.tup l) = some l := rfl
@[simp] theorem itemsC_lst (l : List P) : itemsC (.lst l) = some l := rfl
@[simp] theorem tru_non : truP .non = some false := rfl
@[simp] theorem tru_bl (b : Bool) : truP (.bl b) = some b := rfl
@[simp] theorem tru_int (i : Int) : truP (.int i) = some (i != 0) := rfl
@[simp] theorem tru_tup (l : List P) : truP (.tup l) = some (!l.isEmpty) := rfl
@[simp] theorem tru_lst (l : List P) : truP (.lst l) = some (!l.isEmpty) := rfl
@[simp] theorem tru_own (l : List P) : truP (.own l) = some (!l.isEmpty) := rfl
theorem call_own {G : MirV} {ps : List P} (h : ps.any P.isOwn = true) : vCallP G ps τ = flatR (G (ps.map P.thaw) τ) := by
  unfold vCallP
  rw [h]
  rfl
@[simp] theorem W_callP (G : MirV) (ps : List P) : vCallP G ps τ = if ps.any P.isOwn = true then flatR (G (ps.map P.thaw) τ) else G ps τ := rfl
@[simp] theorem W_flatR (p : P) : flatR (some (.ok p, τ)) = if p.flat = true then some (.ok p, τ) else none := rfl
@[simp] theorem flat_non : P.flat .non = true := rfl
@[simp] theorem flat_bl (b : Bool) : P.flat (.bl b) = true := rfl
@[simp] theorem flat_int (b : Int) : P.flat (.int b) = true := rfl
@[simp] theorem flat_str (b : Str) : P.flat (.str b) = true := rfl
@[simp] theorem flat_tup (b : List P) : P.flat (.tup b) = P.flats b := rfl
@[simp] theorem flats_nil : P.flats [] = true := rfl
@[simp] theorem flats_cons (p : P) (l : List P) : P.flats (p :: l) = (p.flat && P.flats l) := rfl
/-! operations -/
@[simp] theorem pAdd_int (i j : Int) : pAdd (.int i) (.int j) = some (.int (i + j)) := rfl
theorem pAdd_str (x y : Str) (h : x.length + y.length ≤ sizeLine) : pAdd (.str x) (.str y) = some (.str (x ++ y)) := if_pos h
@[simp] theorem pAdd_ll (x y : List P) : pAdd (.lst x) (.lst y) = pCat (.lst x) (.lst y) := rfl
@[simp] theorem pAdd_lo (x y : List P) : pAdd (.lst x) (.own y) = pCat (.lst x) (.own y) := rfl
@[simp] theorem pAdd_ol (x y : List P) : pAdd (.own x) (.lst y) = pCat (.own x) (.lst y) := rfl
@[simp] theorem pAdd_oo (x y : List P) : pAdd (.own x) (.own y) = pCat (.own x) (.own y) := rfl
@[simp] theorem pCat_ll (x y : List P) : pCat (.lst x) (.lst y) = if x.length + y.length ≤ sizeLine then some (.lst (x ++ y)) else none := rfl
@[simp] theorem pCat_lo (x y : List P) : pCat (.lst x) (.own y) = if x.length + y.length ≤ sizeLine then some (.lst (x ++ y)) else none := rfl
@[simp] theorem pCat_ol (x y : List P) : pCat (.own x) (.lst y) = if x.length + y.length ≤ sizeLine then some (.lst (x ++ y)) else none := rfl
@[simp] theorem pCat_oo (x y : List P) : pCat (.own x) (.own y) = if x.length + y.length ≤ sizeLine then some (.lst (x ++ y)) else none := rfl
@[simp] theorem pIAdd_int (i j : Int) : pIAdd (.int i) (.int j) = some (.int (i + j)) := rfl
@[simp] theorem pSub_int (i j : Int) : pSub (.int i) (.int j) = some (.int (i - j)) := rfl
@[simp] theorem pMulR (i j : Int) (h1 : -(2 ^ 64) < j) (h2 : j < 2 ^ 64) : pMul (.int i) (.int j) = some (.int (i * j)) := if_pos (.inl (.inr ⟨h1, h2⟩))
@[simp] theorem pMod_int (i j : Int) (h : 0 < j) : pMod (.int i) (.int j) = some (.int (i % j)) := if_pos h
theorem pFdiv_int (i j : Int) (h : CDivW i j) : pFdiv (.int i) (.int j) = some (.int (i / j)) := if_pos h
@[simp] theorem pEq_def (p q : P) : pEq p q = (eqP p q).map P.bl := rfl
@[simp] theorem pNe_def (p q : P) : pNe p q = (eqP p q).map fun x => P.bl (!x) := rfl
@[simp] theorem pIn_def (p q : P) : pIn p q = (inP p q).map P.bl := rfl
@[simp] theorem pNotIn_def (p q : P) : pNotIn p q = (inP p q).map fun x => P.bl (!x) := rfl
@[simp] theorem eqP_int (i j : Int) : eqP (.int i) (.int j) = some (decide (i = j)) := rfl
@[simp] theorem eqP_str (i j : Str) : eqP (.str i) (.str j) = some (decide (i = j)) := rfl
@[simp] theorem eqP_bl (i j : Bool) : eqP (.bl i) (.bl j) = some (decide (i = j)) := rfl
@[simp] theorem eqP_nn : eqP .non .non = some true := rfl
@[simp] theorem eqP_ns (x : Str) : eqP .non (.str x) = some false := rfl
@[simp] theorem eqP_sn (x : Str) : eqP (.str x) .non = some false := rfl
@[simp] theorem pLt_int (i j : Int) : pLt (.int i) (.int j) = some (.bl (decide (i < j))) := rfl
@[simp] theorem pLe_int (i j : Int) : pLe (.int i) (.int j) = some (.bl (decide (i ≤ j))) := rfl
@[simp] theorem pGt_int (i j : Int) : pGt (.int i) (.int j) = some (.bl (decide (j < i))) := rfl
@[simp] theorem pGe_int (i j : Int) : pGe (.int i) (.int j) = some (.bl (decide (j ≤ i))) := rfl
@[simp] theorem pLt_str (i j : Str) : pLt (.str i) (.str j) = some (.bl (decide (i.cps.toList < j.cps.toList))) := rfl
@[simp] theorem pLe_str (i j : Str) : pLe (.str i) (.str j) = some (.bl (!decide (j.cps.toList < i.cps.toList))) := rfl
@[simp] theorem pGt_str (i j : Str) : pGt (.str i) (.str j) = some (.bl (decide (j.cps.toList < i.cps.toList))) := rfl
@[simp] theorem pIs_non (p : P) : pIs p .non = some (.bl (isNonP p)) := rfl
@[simp] theorem pIsNot_non (p : P) : pIsNot p .non = some (.bl (!isNonP p)) := rfl
@[simp] theorem isNon_non : isNonP .non = true := rfl
@[simp] theorem isNon_bl (b : Bool) : isNonP (.bl b) = false := rfl
@[simp] theorem isNon_int (b : Int) : isNonP (.int b) = false := rfl
@[simp] theorem isNon_str (b : Str) : isNonP (.str b) = false := rfl
@[simp] theorem isNon_tup (b : List P) : isNonP (.tup b) = false := rfl
@[simp] theorem isNon_lst (b : List P) : isNonP (.lst b) = false := rfl
@[simp] theorem pIx_tup (l : List P) (i : Int) : pIx (.tup l) (.int i) = atI l i := rfl
@[simp] theorem pIx_lst (l : List P) (i : Int) : pIx (.lst l) (.int i) = atI l i := rfl
@[simp] theorem pIx_own (l : List P) (i : Int) : pIx (.own l) (.int i) = atI l i := rfl
@[simp] theorem at0 {α : Type} (x : α) (l : List α) : atI (x :: l) 0 = some x := by
  have : ((0 : Nat) : Int) = 0 := rfl
  rw [← this]; exact atI_nat rfl
@[simp] theorem at1 {α : Type} (x y : α) (l : List α) : atI (x :: y :: l) 1 = some y := atI_nat (j := 1) rfl
@[simp] theorem at2 {α : Type} (x y z : α) (l : List α) : atI (x :: y :: z :: l) 2 = some z := atI_nat (j := 2) rfl
@[simp] theorem at3 {α : Type} (x y z u : α) (l : List α) : atI (x :: y :: z :: u :: l) 3 = some u := atI_nat (j := 3) rfl
@[simp] theorem at4 {α : Type} (x y z u v : α) (l : List α) : atI (x :: y :: z :: u :: v :: l) 4 = some v := atI_nat (j := 4) rfl
theorem at_map {α : Type} {f : α → P} {l : List α} {i : Nat} {x : α} (h : l[i]? = some x) : atI (l.map f) (i : Int) = some (f x) := atI_nat (by rw [List.getElem?_map, h]; rfl)
@[simp] theorem qTup_def (l : List P) : qTup l = if l.length ≤ sizeLine ∧ l.any P.isOwn = false then some (.tup l) else none := rfl
@[simp] theorem qLst_def (l : List P) : qLst l = if l.length ≤ sizeLine ∧ l.any P.isOwn = false then some (.lst l) else none := rfl
@[simp] theorem qInt_int (i : Int) : qInt [.int i] = some (.int i) := rfl
@[simp] theorem qInt_bl (b : Bool) : qInt [.bl b] = some (.int (if b then 1 else 0)) := rfl
@[simp] theorem qLen_1 (p : P) : qLen [p] = qLen1 p := rfl
@[simp] theorem qLen_tup (l : List P) : qLen1 (.tup l) = some (.int l.length) := rfl
@[simp] theorem qLen_lst (l : List P) : qLen1 (.lst l) = some (.int l.length) := rfl
@[simp] theorem qLen_own (l : List P) : qLen1 (.own l) = some (.int l.length) := rfl
@[simp] theorem qList_1 (p : P) : qList [p] = match items p with
    | some ds => some (.lst ds)
    | none => none := rfl
@[simp] theorem qTuple_1 (p : P) : qTuple [p] = match items p with
    | some ds => some (.tup ds)
    | none => none := rfl
@[simp] theorem tyP_non : tyP .non = some "NoneType" := rfl
@[simp] theorem tyP_bl (b : Bool) : tyP (.bl b) = some "bool" := rfl
@[simp] theorem tyP_int (b : Int) : tyP (.int b) = some "int" := rfl
@[simp] theorem tyP_str (b : Str) : tyP (.str b) = some "str" := rfl
@[simp] theorem tyP_tup (b : List P) : tyP (.tup b) = some "tuple" := rfl
@[simp] theorem tyP_lst (b : List P) : tyP (.lst b) = some "list" := rfl
@[simp] theorem tyP_own (b : List P) : tyP (.own b) = some "list" := rfl
@[simp] theorem ln1 : 1 ≤ sizeLine := by decide
@[simp] theorem ln2 : 2 ≤ sizeLine := by decide
@[simp] theorem ln3 : 3 ≤ sizeLine := by decide
@[simp] theorem ln4 : 4 ≤ sizeLine := by decide
@[simp] theorem ln5 : 5 ≤ sizeLine := by decide
@[simp] theorem ln6 : 6 ≤ sizeLine := by decide
@[simp] theorem ln8 : 8 ≤ sizeLine := by decide
@[simp] theorem ln12 : 12 ≤ sizeLine := by decide
@[simp] theorem any_str (l : List Str) : (l.map P.str).any P.isOwn = false := by
  induction l with
  | nil => rfl
  | cons x l ih => rw [List.map_cons, List.any_cons, ih]; rfl
@[simp] theorem strsP_map : ∀ is : List Str, strsP (is.map P.str) = some is
  | [] => rfl
  | i :: is => by simp [strsP, strsP_map is]
@[simp] theorem intsP_map : ∀ is : List Int, intsP (is.map P.int) = some is
  | [] => rfl
  | i :: is => by simp [intsP, intsP_map is]
@[simp] theorem blsP_map : ∀ is : List Bool, blsP (is.map P.bl) = some is
  | [] => rfl
  | i :: is => by simp [blsP, blsP_map is]
/-- texts in texts -/
theorem inS_str (x : Str) : ∀ l : List Str, inS (.str x) (l.map P.str) = decide (x ∈ l)
  | [] => rfl
  | y :: l => by
    show (eqS (.str y) (.str x) || inS (.str x) (l.map P.str)) = _
    rw [inS_str x l]
    show ((y == x) || _) = _
    rw [Bool.eq_iff_iff]
    simp only [Bool.or_eq_true, beq_iff_eq, decide_eq_true_eq, List.mem_cons]
    exact ⟨fun h => h.imp Eq.symm id, fun h => h.imp Eq.symm id⟩
theorem sc_strs : ∀ l : List Str, (l.map P.str).all P.sc = true
  | [] => rfl
  | y :: l => by rw [List.map_cons, List.all_cons, sc_strs l]; rfl
theorem inP_of {x : Str} {p : P} {l : List Str} (h : items p = some (l.map P.str)) : inP (.str x) p = some (decide (x ∈ l)) := by
  cases p <;> first | cases h | skip
  all_goals (simp only [inP, items] at *; subst_vars)
  all_goals (try (cases h))
  all_goals (rw [if_pos ⟨rfl, sc_strs l⟩, inS_str])
@[simp] theorem inP_tup (x : Str) (l : List Str) : inP (.str x) (.tup (l.map P.str)) = some (decide (x ∈ l)) := inP_of rfl
@[simp] theorem inP_lst (x : Str) (l : List Str) : inP (.str x) (.lst (l.map P.str)) = some (decide (x ∈ l)) := inP_of rfl
@[simp] theorem inP_own (x : Str) (l : List Str) : inP (.str x) (.own (l.map P.str)) = some (decide (x ∈ l)) := inP_of rfl
@[simp] theorem inP_nil1 (x : Str) : inP (.str x) (.tup []) = some false := rfl
@[simp] theorem inP_nil2 (x : Str) : inP (.str x) (.lst []) = some false := rfl
@[simp] theorem inP_nil3 (x : Str) : inP (.str x) (.own []) = some false := rfl
@[simp] theorem rangeP_len (lo : Int) (n : Nat) : (rangeP lo n).length = n := by simp [rangeP]
theorem rangeP_get {lo : Int} {n i : Nat} {x : P} (h : (rangeP lo n)[i]? = some x) : i < n ∧ x = .int (lo + i) := by
  unfold rangeP at h
  rw [List.getElem?_map] at h
  by_cases hi : i < n
  · rw [List.getElem?_range hi] at h
    cases h
    exact ⟨hi, rfl⟩
  · rw [List.getElem?_eq_none (by simpa using hi)] at h
    cases h
theorem rangeP_at {n j : Nat} {x : P} (h : (rangeP 0 n)[j]? = some x) : j < n ∧ x = .int (j : Int) := by
  obtain ⟨a, b⟩ := rangeP_get h
  exact ⟨a, by rw [b, Int.zero_add]⟩
end
/-! ### loops -/
/-- a comprehension whose parts change nothing -/
theorem lcV_map {α : Type} {tg : Tg} {gt : PE → Tau → AP Bool} {ge : PE → Tau → AP P} {pe : PE} {τ : Tau} (enc : α → P) (l : List α) (b : α → Bool) (y : α → P)
    (step : ∀ x ∈ l, ∃ pe1, putP tg (enc x) pe = some pe1 ∧ gt pe1 τ = some (.ok (b x), τ) ∧ (b x = true → ge pe1 τ = some (.ok (y x), τ) ∧ (y x).isOwn = false)) : lcV tg gt ge pe (l.map enc) τ = some ((l.filter b).map y, τ) := by
  induction l with
  | nil => rfl
  | cons x l ih =>
    obtain ⟨pe1, h1, h2, h3⟩ := step x List.mem_cons_self
    have ih := ih fun z hz => step z (List.mem_cons_of_mem _ hz)
    rw [List.map_cons]
    unfold lcV
    rw [h1]
    simp only [h2]
    cases hb : b x with
    | false => simp only [ih, List.filter_cons, hb]; rfl
    | true =>
      obtain ⟨h4, h5⟩ := h3 hb
      simp only [h4, h5, ih, List.filter_cons, hb]
      rfl
end VL
namespace VL
open PySem PySem.Spec PyProof.Rows L2 RT RZ DL
/-! ### == of plain data: f: bools are in it, but no numbers; not f: numbers, but no bools -/
mutual
def Gd (f : Bool) : Nat → P → Bool
  | _, .non => true
  | _, .bl _ => f
  | _, .int _ => !f
  | _, .str x => PyData.strOk x
  | 0, .tup _ => false
  | d + 1, .tup l => Gds f d l
  | _, _ => false
def Gds (f : Bool) : Nat → List P → Bool
  | _, [] => true
  | d, p :: l => Gd f d p && Gds f d l
end
@[simp] theorem Gd_non (f : Bool) (d : Nat) : Gd f d .non = true := by cases d <;> simp [Gd]
@[simp] theorem Gd_bl (f : Bool) (d : Nat) (b : Bool) : Gd f d (.bl b) = f := by cases d <;> simp [Gd]
@[simp] theorem Gd_int (f : Bool) (d : Nat) (b : Int) : Gd f d (.int b) = !f := by cases d <;> simp [Gd]
@[simp] theorem Gd_str (f : Bool) (d : Nat) (b : Str) : Gd f d (.str b) = PyData.strOk b := by cases d <;> simp [Gd]
@[simp] theorem Gd_tup (f : Bool) (d : Nat) (b : List P) : Gd f (d + 1) (.tup b) = Gds f d b := by simp [Gd]
@[simp] theorem Gds_nil (f : Bool) (d : Nat) : Gds f d [] = true := by cases d <;> simp [Gds]
@[simp] theorem Gds_cons (f : Bool) (d : Nat) (p : P) (l : List P) : Gds f d (p :: l) = (Gd f d p && Gds f d l) := by cases d <;> simp [Gds]
theorem Gds_iff {f : Bool} {d : Nat} : ∀ {l : List P}, Gds f d l = true ↔ ∀ p ∈ l, Gd f d p = true
  | [] => by simp
  | p :: l => by simp [Gds_iff (l := l)]
theorem Gds_map {α : Type} {f : Bool} {d : Nat} {e : α → P} {l : List α} (h : ∀ x ∈ l, Gd f d (e x) = true) : Gds f d (l.map e) = true := Gds_iff.mpr fun p hp => by
  obtain ⟨x, hx, rfl⟩ := List.mem_map.mp hp
  exact h x hx
mutual
theorem gd_py {f : Bool} : ∀ (d : Nat) (p : P), Gd f d p = true → ∃ x, p.py = some x ∧ x.canLay0 = true ∧ x.depth ≤ d
  | d, .non, _ => ⟨_, rfl, by simp [PyData.canLay0], by simp [PyData.depth]⟩
  | d, .bl _, _ => ⟨_, rfl, by simp [PyData.canLay0], by simp [PyData.depth]⟩
  | d, .int _, _ => ⟨_, rfl, by simp [PyData.canLay0], by simp [PyData.depth]⟩
  | d, .str x, h => ⟨_, rfl, by simpa [PyData.canLay0] using h, by simp [PyData.depth]⟩
  | 0, .tup l, h => by simp [Gd] at h
  | d + 1, .tup l, h => by
    obtain ⟨xs, h1, h2, h3⟩ := gds_py d l (by simpa using h)
    exact ⟨.tuple xs, by simp only [P.py, h1], by simpa [PyData.canLay0] using h2, by simp only [PyData.depth]; omega⟩
  | d, .lst _, h => by cases d <;> simp [Gd] at h
  | d, .own _, h => by cases d <;> simp [Gd] at h
  | d, .tape, h => by cases d <;> simp [Gd] at h
theorem gds_py {f : Bool} : ∀ (d : Nat) (l : List P), Gds f d l = true → ∃ xs, P.pys l = some xs ∧ PyData.canLayAll0 xs = true ∧ PyData.depthAll xs ≤ d
  | d, [], _ => ⟨[], rfl, by simp [PyData.canLayAll0], by simp [PyData.depthAll]⟩
  | d, p :: l, h => by
    simp only [Gds_cons, Bool.and_eq_true] at h
    obtain ⟨x, h1, h2, h3⟩ := gd_py d p h.1
    obtain ⟨xs, k1, k2, k3⟩ := gds_py d l h.2
    exact ⟨x :: xs, by simp only [P.pys, h1, k1], by simp [PyData.canLayAll0, h2, k2], by simp only [PyData.depthAll]; omega⟩
end
mutual
theorem gd_eqv {f : Bool} : ∀ (p q : P) (d e : Nat) (x y : PyData), Gd f d p = true → Gd f e q = true → p.py = some x → q.py = some y → (PyData.eqv x y = true ↔ p = q)
  | .non, q, d, e, x, y, _, hq, hx, hy => by
    cases hx
    cases q <;> first | (cases hy; simp [PyData.eqv]; done) | skip
    · simp only [P.py] at hy
      split at hy
      · cases hy; simp [PyData.eqv]
      · cases hy
    all_goals (simp [P.py] at hy)
  | .bl a, q, d, e, x, y, hp, hq, hx, hy => by
    cases hx
    cases q <;> first | (cases hy; simp [PyData.eqv]; done) | skip
    · simp at hp hq; rw [hp] at hq; cases hq
    · simp only [P.py] at hy
      split at hy
      · cases hy; simp [PyData.eqv]
      · cases hy
    all_goals (simp [P.py] at hy)
  | .int a, q, d, e, x, y, hp, hq, hx, hy => by
    cases hx
    cases q <;> first | (cases hy; simp [PyData.eqv]; done) | skip
    · simp at hp hq; rw [hp] at hq; cases hq
    · simp only [P.py] at hy
      split at hy
      · cases hy; simp [PyData.eqv]
      · cases hy
    all_goals (simp [P.py] at hy)
  | .str a, q, d, e, x, y, hp, hq, hx, hy => by
    cases hx
    cases q <;> first | (cases hy; simp [PyData.eqv]; done) | skip
    · simp only [P.py] at hy
      split at hy
      · cases hy; simp [PyData.eqv]
      · cases hy
    all_goals (simp [P.py] at hy)
  | .tup l, q, d, e, x, y, hp, hq, hx, hy => by
    cases d with
    | zero => simp [Gd] at hp
    | succ d =>
      simp only [P.py] at hx
      split at hx
      · rename_i xs hxs
        cases hx
        cases q <;> first | (cases hy; simp [PyData.eqv]; done) | skip
        · rename_i m
          cases e with
          | zero => simp [Gd] at hq
          | succ e =>
            simp only [P.py] at hy
            split at hy
            · rename_i ys hys
              cases hy
              simp only [PyData.eqv, P.tup.injEq]
              exact gds_eqv l m d e xs ys (by simpa using hp) (by simpa using hq) hxs hys
            · cases hy
        all_goals (simp [P.py] at hy)
      · cases hx
  | .lst _, q, d, e, x, y, hp, hq, hx, hy => by simp [P.py] at hx
  | .own _, q, d, e, x, y, hp, hq, hx, hy => by simp [P.py] at hx
  | .tape, q, d, e, x, y, hp, hq, hx, hy => by simp [P.py] at hx
theorem gds_eqv {f : Bool} : ∀ (p q : List P) (d e : Nat) (x y : List PyData), Gds f d p = true → Gds f e q = true → P.pys p = some x → P.pys q = some y → (PyData.eqvAll x y = true ↔ p = q)
  | [], [], d, e, x, y, _, _, hx, hy => by cases hx; cases hy; simp [PyData.eqvAll]
  | [], q :: m, d, e, x, y, _, _, hx, hy => by
    cases hx
    simp only [P.pys] at hy
    split at hy
    · cases hy; simp [PyData.eqvAll]
    · cases hy
  | p :: l, [], d, e, x, y, _, _, hx, hy => by
    cases hy
    simp only [P.pys] at hx
    split at hx
    · cases hx; simp [PyData.eqvAll]
    · cases hx
  | p :: l, q :: m, d, e, x, y, hp, hq, hx, hy => by
    simp only [P.pys] at hx hy
    simp only [Gds_cons, Bool.and_eq_true] at hp hq
    split at hx
    · rename_i a as ha has
      cases hx
      split at hy
      · rename_i b bs hb hbs
        cases hy
        simp only [PyData.eqvAll, Bool.and_eq_true, List.cons.injEq]
        rw [gd_eqv p q d e a b hp.1 hq.1 ha hb, gds_eqv l m d e as bs hp.2 hq.2 has hbs]
      · cases hy
    · cases hx
end
theorem gd_pyT {f : Bool} {d : Nat} {p : P} (h : Gd f d p = true) : pyT p = p.py := by
  cases p <;> first | rfl | (cases d <;> simp [Gd] at h)
theorem eqP_ex {f : Bool} {d e : Nat} {p q : P} (h1 : Gd f d p = true) (h2 : Gd f e q = true) (hd : d ≤ 64) (he : e ≤ 64) : ∃ b, eqP p q = some b ∧ (b = true ↔ p = q) := by
  have deep : ∃ b, deepP p q = some b ∧ (b = true ↔ p = q) := by
    obtain ⟨x, a1, a2, a3⟩ := gd_py d p h1
    obtain ⟨y, b1, b2, b3⟩ := gd_py e q h2
    refine ⟨PyData.eqv x y, ?_, gd_eqv p q d e x y h1 h2 a1 b1⟩
    unfold deepP
    rw [gd_pyT h1, gd_pyT h2, a1, b1]
    simp only
    rw [if_pos ⟨by unfold SeqAt.shaped; simp [a2]; omega, by unfold SeqAt.shaped; simp [b2]; omega⟩]
  unfold eqP
  split
  · exact ⟨_, rfl, by simp⟩
  · exact ⟨_, rfl, by simp⟩
  · exact ⟨_, rfl, by simp⟩
  · exact ⟨_, rfl, by simp⟩
  · exact ⟨_, rfl, by simp⟩
  · exact ⟨_, rfl, by simp⟩
  · exact deep
theorem eqP_self {f : Bool} {d : Nat} {p : P} (h : Gd f d p = true) (hd : d ≤ 64 := by decide) : eqP p p = some true := by
  obtain ⟨b, h1, h2⟩ := eqP_ex h h hd hd
  rw [h1, h2.mpr rfl]
end VL
namespace VL
open PySem PySem.Spec PyProof.Rows L2 RT RZ DL
/-! ### slots that keep their object -/
/-! ### defs that write into lists of their caller -/
abbrev MirIO := List P → Tau → AP (P × List P)
/-- an own list or dict, not a list of lists -/
def P.isOw1 : P → Bool
  | .own _ => true
  | .ownd _ => true
  | _ => false
@[simp] theorem isOw1_own (l : List P) : (P.own l).isOw1 = true := rfl
@[simp] theorem isOw1_ownd (l : List P) : (P.ownd l).isOw1 = true := rfl
/-- the arguments: at js (from k on) stand the lists as; the others are met in B -/
inductive ArgX (t : Nat) (S : Sto) (B : Nat → Prop) : Nat → List Nat → List Nat → List P → List D → Prop where
  | nil {k : Nat} {ps : List P} {ds : List D} (h : Rds t S B ps ds) : ArgX t S B k [] [] ps ds
  | own {k n : Nat} {js as : List Nat} {p : P} {ob : O} {ps : List P} {ds : List D} (o : p.isOw1 = true) (e : S[n]? = some ob) (q : OwR t S (fun _ => False) B p ob) (h : ArgX t S B (k + 1) js as ps ds) : ArgX t S B k (k :: js) (n :: as) (p :: ps) (.ref n :: ds)
  | val {k j : Nat} {js as : List Nat} {p : P} {d : D} {ps : List P} {ds : List D} (l : k < j) (q : Rd t S B p d) (h : ArgX t S B (k + 1) (j :: js) as ps ds) : ArgX t S B k (j :: js) as (p :: ps) (d :: ds)
def outs (pe : PE) : List Nat → Option (List P)
  | [] => some []
  | j :: js => match pe[j]? with
    | some (some p) => if p.isOw1 = true then (outs pe js).map (p :: ·) else none
    | _ => none
def isOwnd : P → Bool
  | .ownd _ => true
  | _ => false
/-- a result without lists; or a list of such, where dicts alone go out -/
def okL (p : P) (qs : List P) : Bool := p.flat || match p with
  | .lst l => P.flats l && qs.all isOwnd
  | _ => false
def runVIO (n m : Nat) (js : List Nat) (fb : PE → Tau → AnsV) : MirIO := fun ps τ => if ps.length = n then match fb (ps.map some ++ List.replicate (m - n) none) τ with
    | some (.nx, pe, τ') => (outs pe js).map fun qs => (.ok (.non, qs), τ')
    | some (.rt p, pe, τ') => (outs pe js).bind fun qs => if okL p qs = true then some (.ok (p, qs), τ') else none
    | some (.ex e, _, τ') => some (.ex e, τ')
    | _ => none
  else none
section
variable {t s : Nat} {ns : List Int} {S S' : Sto} {B : Nat → Prop}
theorem ArgX.len {k : Nat} {js as : List Nat} {ps : List P} {ds : List D} (h : ArgX t S B k js as ps ds) : ps.length = ds.length := by
  induction h with
  | nil h => exact h.len
  | own _ _ _ _ ih => simp [ih]
  | val _ _ _ ih => simp [ih]
/-- which list stands at a place -/
def nameX : List Nat → List Nat → Nat → Option Nat
  | j :: js, n :: as, k => if k = j then some n else nameX js as k
  | _, _, _ => none
theorem nameX_mem : ∀ {js as : List Nat} {k n : Nat}, nameX js as k = some n → n ∈ as ∧ k ∈ js
  | j :: js, m :: as, k, n, h => by
    unfold nameX at h
    split at h
    · rename_i e; cases h; subst e; exact ⟨List.mem_cons_self, List.mem_cons_self⟩
    · exact ⟨List.mem_cons_of_mem _ (nameX_mem h).1, List.mem_cons_of_mem _ (nameX_mem h).2⟩
  | [], _, _, _, h => by unfold nameX at h; cases h
  | _ :: _, [], _, _, h => by unfold nameX at h; cases h
theorem ArgX.ge {k : Nat} {js as : List Nat} {ps : List P} {ds : List D} (h : ArgX t S B k js as ps ds) : ∀ j ∈ js, k ≤ j := by
  induction h with
  | nil h => intro j hj; cases hj
  | own _ _ _ _ ih =>
    intro i hi
    rcases List.mem_cons.mp hi with rfl | hi
    · omega
    · have := ih i hi; omega
  | val l _ _ ih => intro i hi; have := ih i hi; omega
theorem ArgX.get {k : Nat} {js as : List Nat} {ps : List P} {ds : List D} (h : ArgX t S B k js as ps ds) : ∀ {i : Nat} {p : P}, ps[i]? = some p →
    (∃ n ob, nameX js as (k + i) = some n ∧ ds[i]? = some (.ref n) ∧ p.isOw1 = true ∧ S[n]? = some ob ∧ OwR t S (fun _ => False) B p ob) ∨ (nameX js as (k + i) = none ∧ ∃ d, ds[i]? = some d ∧ Rd t S B p d) := by
  induction h with
  | nil h =>
    intro i p e
    obtain ⟨d, h1, h2⟩ := Rds.get h e
    exact .inr ⟨by unfold nameX; rfl, d, h1, h2⟩
  | @own k n js as x ob ps ds o e q h ih =>
    intro i p ei
    cases i with
    | zero =>
      simp at ei
      subst ei
      exact .inl ⟨n, ob, by unfold nameX; rw [if_pos (by omega)], rfl, o, e, q⟩
    | succ i =>
      have ei : ps[i]? = some p := by simpa using ei
      have z := ih ei
      have : nameX (k :: js) (n :: as) (k + (i + 1)) = nameX js as (k + 1 + i) := by
        show (if k + (i + 1) = k then some n else nameX js as (k + (i + 1))) = _
        rw [if_neg (by omega), show k + (i + 1) = k + 1 + i by omega]
      rw [this]
      simpa using z
  | @val k j js as x d ps ds l q h ih =>
    intro i p ei
    cases i with
    | zero =>
      simp at ei
      subst ei
      refine .inr ⟨?_, d, rfl, q⟩
      cases hn : nameX (j :: js) as (k + 0) with
      | none => rfl
      | some m =>
        have := ArgX.ge h _ (nameX_mem hn).2
        omega
    | succ i =>
      have ei : ps[i]? = some p := by simpa using ei
      have z := ih ei
      rw [show k + (i + 1) = k + 1 + i by omega]
      simpa using z
theorem ArgX.at {k : Nat} {js as : List Nat} {ps : List P} {ds : List D} (h : ArgX t S B k js as ps ds) : ∀ {j n : Nat}, nameX js as j = some n → ∃ i, j = k + i ∧ ds[i]? = some (.ref n) := by
  induction h with
  | nil h => intro j n hj; unfold nameX at hj; cases hj
  | own o e q h ih =>
    intro j n hj
    unfold nameX at hj
    split at hj
    · rename_i e; cases hj; exact ⟨0, by omega, rfl⟩
    · obtain ⟨i, e1, e2⟩ := ih hj
      exact ⟨i + 1, by omega, by simpa using e2⟩
  | val l q h ih =>
    intro j n hj
    obtain ⟨i, e1, e2⟩ := ih hj
    exact ⟨i + 1, by omega, by simpa using e2⟩
end
/-! ### the caller: its own lists go out and come back -/
/-- at js stand own lists, and nowhere else -/
def plainX : Nat → List Nat → List P → Bool
  | _, [], ps => ps.all fun p => !p.isOwn
  | k, j :: js, p :: ps => if k = j then p.isOw1 && plainX (k + 1) js ps else !p.isOwn && plainX (k + 1) (j :: js) ps
  | _, _ :: _, [] => false
def setX : List Nat → List P → PE → PE
  | i :: is, q :: qs, pe => setX is qs (pe.set i (some q))
  | _, _, pe => pe
def ioV {α : Type} (js is : List Nat) (G : MirIO) (gs : PE → Tau → AP (List P)) (pe : PE) (τ : Tau) (k : P → PE → Tau → AnsV) : AnsV := bindSV (gs pe τ) pe fun ps τ1 => if plainX 0 js ps = true then bindSV (G ps τ1) (wipeV pe is) fun r τ2 => k r.1 (setX is r.2 pe) τ2 else none
def vExprIO (js is : List Nat) (G : MirIO) (gs : PE → Tau → AP (List P)) : PE → Tau → AnsV := fun pe τ => ioV (α := P) js is G gs pe τ fun _ pe1 τ1 => some (.nx, pe1, τ1)
def vAsgIO (tg : Tg) (js is : List Nat) (G : MirIO) (gs : PE → Tau → AP (List P)) : PE → Tau → AnsV := fun pe τ => ioV (α := P) js is G gs pe τ fun p pe1 τ1 => match putP tg p pe1 with
  | some pe2 => some (.nx, pe2, τ1)
  | none => none
def vIfIO (js is : List Nat) (G : MirIO) (gs : PE → Tau → AP (List P)) (f g : PE → Tau → AnsV) : PE → Tau → AnsV := fun pe τ => ioV (α := P) js is G gs pe τ fun p pe1 τ1 => match truP p with
  | some true => f pe1 τ1
  | some false => g pe1 τ1
  | none => none
def vRetIO (js is : List Nat) (G : MirIO) (gs : PE → Tau → AP (List P)) : PE → Tau → AnsV := fun pe τ => ioV (α := P) js is G gs pe τ fun p pe1 τ1 => some (.rt p, pe1, τ1)
section
variable {t s : Nat} {ns : List Int} {b : Nat} {A : Nat → Prop} {o : Ow} {S : Sto} {env : Ev} {pe : PE} {τ : Tau}
/-- the slots' own lists -/
inductive OwnS (o : Ow) (env : Ev) : List Nat → List Nat → Prop where
  | nil : OwnS o env [] []
  | cons {i n : Nat} {is as : List Nat} (h : o i = some n) (e : env[i]? = some (some (.ref n))) (r : OwnS o env is as) : OwnS o env (i :: is) (n :: as)
theorem OwnS.mem {is as : List Nat} (h : OwnS o env is as) : ∀ n ∈ as, ∃ i ∈ is, o i = some n := by
  induction h with
  | nil => intro n hn; cases hn
  | @cons i m is as h e r ih =>
    intro n hn
    rcases List.mem_cons.mp hn with rfl | hn
    · exact ⟨i, List.mem_cons_self, h⟩
    · obtain ⟨j, h1, h2⟩ := ih n hn
      exact ⟨j, List.mem_cons_of_mem _ h1, h2⟩
theorem OwnS.nd {is as : List Nat} (r : Rel t b A o S env pe) (h : OwnS o env is as) (nd : is.Nodup) : as.Nodup := by
  induction h with
  | nil => exact List.nodup_nil
  | @cons i m is as h e rr ih =>
    have nd' := List.nodup_cons.mp nd
    refine List.nodup_cons.mpr ⟨fun hm => ?_, ih nd'.2⟩
    obtain ⟨j, h1, h2⟩ := rr.mem m hm
    exact nd'.1 (Ix.v.inj (r.inj i j m h h2) ▸ h1)
theorem OwnS.len {is as : List Nat} (h : OwnS o env is as) : is.length = as.length := by
  induction h with
  | nil => rfl
  | cons _ _ _ ih => simp [ih]
end
end VL
namespace VL
open PySem PySem.Spec PyProof.Rows L2 RT RZ DL
/-! ### defs that give back a list of their own: the caller may write into it -/
/-- return x, where x's list is its own -/
def vRetF (i : Nat) : PE → Tau → AnsV := fun pe τ => match pe[i]? with
  | some (some (.own l)) => some (.rt (.lst l), pe, τ)
  | _ => none
@[simp] theorem W_retF {pe : PE} {τ : Tau} (i : Nat) : vRetF i pe τ = match pe[i]? with
  | some (some (.own l)) => some (.rt (.lst l), pe, τ)
  | _ => none := rfl
def VOkF (t s : Nat) (ns : List Int) (F : Mir) (G : MirV) : Prop := ∀ A S ds ps τ, Adm t A A S → Rds t S A ps ds → TpOk t s ns S τ → Sim1 t s ns (RdF t S A) A S (F ds S) (G ps τ)
section
variable {t s : Nat} {ns : List Int} {f f2 : Ev → Sto → AnsS} {g g2 : PE → Tau → AnsV}
theorem VOkF.v {F : Mir} {G : MirV} (h : VOkF t s ns F G) : VOk t s ns F G := fun A S ds ps τ a q T => (h A S ds ps τ a q T).imp fun _ _ _ _ z => z.rd a
end
/-! ### what does not return -/
end VL
namespace DL
open PySem PySem.Spec PyProof.Rows L2 RT RZ
/-! ### constants of the top -/
def GlobD (K : PySem.W.Frag) (mg : Str → Option Value) (x : Str) (d : D) : Prop := ∃ u v, mg x = some u ∧ RelV v u ∧ ∀ io H, RV K io H d v
section
variable {K : PySem.W.Frag} {mg : Str → Option Value} {x : Str}
theorem glob_int {i : Int} {t : PySem.Tok} (h : mg x = some (.int i t)) : GlobD K mg x (.int i) := ⟨_, .int i, h, ⟨t, rfl⟩, fun io H => by simp [RV]⟩
end
section
variable {X : Cx} {W : WX} {pos : Pos}
theorem d_glob {x : Str} {d : D} (hg : Gl X x) (h : GlobD X.K X.mg x d) (hd : (x == ("__debug__" : Str)) = false := by decide) : DE X W (.Name x pos) (dC d) := by
  obtain ⟨u, v, hm, r, q⟩ := h
  exact pe_weak (pe_glob hg hm r (hd := hd)) fun σ H Q ⟨io, S, env, r, S', rs, re, hf, hE⟩ => by
    cases hf
    exact hE.now rs (q io H)
end
/-! ### max of a list of numbers -/
def mx2 (a b : Int) : Int := if b > a then b else a
def maxL : List Int → Int
  | [] => 0
  | x :: l => l.foldl mx2 x
/-! ### sorted(..) of a tuple of texts -/
/-! ### sorted(..) of any list of texts -/
end DL
namespace VL
open PySem PySem.Spec PyProof.Rows L2 RT RZ DL
def qMaxL : List P → Option P
  | [d] => match lstOf d with
    | some ds => match intsP ds with
      | some is => if is = [] then none else some (.int (maxL is))
      | none => none
    | none => none
  | _ => none
@[simp] theorem qMaxL_1 (p : P) : qMaxL [p] = match lstOf p with
    | some ds => match intsP ds with
      | some is => if is = [] then none else some (.int (maxL is))
      | none => none
    | none => none := rfl
def tupQ : P → Option (List P)
  | .tup l => some l
  | _ => none
@[simp] theorem tupQ_tup (l : List P) : tupQ (.tup l) = some l := rfl
def qSortedB : List P → Option P
  | [d] => match lstOf d with
    | some ds => match strsP ds with
      | some is => if is.length ≤ 100000 then some (.lst ((sortS is).map P.str)) else none
      | none => none
    | none => match tupQ d with
      | some ds => match strsP ds with
        | some is => if is.length ≤ 100000 then some (.lst ((sortS is).map P.str)) else none
        | none => none
      | none => none
  | _ => none
@[simp] theorem qSortedB_1 (p : P) : qSortedB [p] = match lstOf p with
    | some ds => match strsP ds with
      | some is => if is.length ≤ 100000 then some (.lst ((sortS is).map P.str)) else none
      | none => none
    | none => match tupQ p with
      | some ds => match strsP ds with
        | some is => if is.length ≤ 100000 then some (.lst ((sortS is).map P.str)) else none
        | none => none
      | none => none := rfl
end VL
namespace VL
open PySem PySem.Spec PyProof.Rows L2 RT RZ DL
/-! ### what holds of an answer; the computations step by step, for simp -/
/-- for simp: what a token names is not looked into -/
abbrev Tk {α : Sort u} (_ : α) : Type := Unit
def tk : Unit := ()
def W {α : Type} (x : AP α) (Q : α → Tau → Prop) (E : XP → Tau → Prop := fun _ _ => False) (tq : Tk Q := tk) (te : Tk E := tk) : Prop := match x with
  | none => False
  | some (.ok a, τ) => Q a τ
  | some (.ex e, τ) => E e τ
def WE {α : Type} (e : PE → Tau → AP α) (pe : PE) (τ : Tau) (Q : α → Tau → Prop) (E : XP → Tau → Prop := fun _ _ => False) (tq : Tk Q := tk) (te : Tk E := tk) : Prop := W (e pe τ) Q E
def WP (g : PE → Tau → AnsV) (pe : PE) (τ : Tau) (Q : OutP → PE → Tau → Prop) (tq : Tk Q := tk) : Prop := match g pe τ with
  | none => False
  | some (o, pe', τ') => Q o pe' τ'
def WF (tg : Tg) (g : PE → Tau → AnsV) (l : List P) (pe : PE) (τ : Tau) (Q : OutP → PE → Tau → Prop) (tg' : Tk g := tk) (tq : Tk Q := tk) : Prop := WP (forV tg g l) pe τ Q
def WO {α : Type} (x : Option α) (Q : α → Prop) (tq : Tk Q := tk) : Prop := match x with
  | none => False
  | some a => Q a
def WL (x : Option (List P × Tau)) (Q : List P → Tau → Prop) (tq : Tk Q := tk) : Prop := match x with
  | none => False
  | some (l, τ) => Q l τ
def iteP (c : Prop) (A B : Prop) (ta : Tk A := tk) (tb : Tk B := tk) : Prop := (c → A) ∧ (¬ c → B)
def andP (c : Prop) (A : Prop) (ta : Tk A := tk) : Prop := c ∧ A
def kS (g : PE → Tau → AnsV) (Q : OutP → PE → Tau → Prop) (o : OutP) (pe : PE) (τ : Tau) (tg : Tk g := tk) (tq : Tk Q := tk) : Prop := match o with
  | .nx => WP g pe τ Q
  | o => Q o pe τ
def kR (Q : P → Tau → Prop) (E : XP → Tau → Prop) (o : OutP) (pe : PE) (τ : Tau) (tq : Tk Q := tk) (te : Tk E := tk) : Prop := match o with
  | .nx => Q .non τ
  | .rt p => Q p τ
  | .ex e => E e τ
  | _ => False
/-- behind one pass of a loop: I for the next one, Q behind the loop -/
def kF (I : PE → Tau → Prop) (Q : OutP → PE → Tau → Prop) (o : OutP) (pe : PE) (τ : Tau) (ti : Tk I := tk) (tq : Tk Q := tk) : Prop := match o with
  | .nx => I pe τ
  | .ct => I pe τ
  | .bk => Q .nx pe τ
  | .rt p => Q (.rt p) pe τ
  | .ex e => Q (.ex e) pe τ
section
variable {α β : Type} {τ : Tau} {pe : PE} {E : XP → Tau → Prop}
@[simp] theorem iteP_true {A B : Prop} : iteP True A B = A := by simp [iteP]
@[simp] theorem iteP_false {A B : Prop} : iteP False A B = B := by simp [iteP]
@[simp] theorem andP_true {A : Prop} : andP True A = A := by simp [andP]
theorem iteP.mk {c A B : Prop} (h : c → A) (g : ¬ c → B) : iteP c A B := ⟨h, g⟩
theorem andP.mk {c A : Prop} (h : c) (g : A) : andP c A := ⟨h, g⟩
@[simp] theorem wp_some {a : α} {Q : α → Tau → Prop} : W (some (.ok a, τ)) Q E = Q a τ := rfl
@[simp] theorem wp_exn {a : XP} {Q : α → Tau → Prop} : W (some (.ex a, τ)) Q E = E a τ := rfl
@[simp] theorem wo_some {a : α} {Q : α → Prop} : WO (some a) Q = Q a := rfl
@[simp] theorem wo_ite {c : Prop} [Decidable c] {x : Option α} {Q : α → Prop} : WO (if c then x else none) Q = andP c (WO x Q) := by
  unfold andP
  by_cases h : c <;> simp [h, WO]
@[simp] theorem wo_iten {c : Prop} [Decidable c] {x : Option α} {Q : α → Prop} : WO (if c then none else x) Q = andP (¬ c) (WO x Q) := by
  unfold andP
  by_cases h : c <;> simp [h, WO]
@[simp] theorem wo_map {f : α → β} {x : Option α} {Q : β → Prop} : WO (x.map f) Q = WO x fun a => Q (f a) := by cases x <;> rfl
@[simp] theorem wl_some {l : List P} {Q : List P → Tau → Prop} : WL (some (l, τ)) Q = Q l τ := rfl
@[simp] theorem w_ite {c : Prop} [Decidable c] {x y : AP α} {Q : α → Tau → Prop} : W (if c then x else y) Q E = iteP c (W x Q E) (W y Q E) := by
  unfold iteP
  by_cases h : c <;> simp [h]
@[simp] theorem w_okV {x : Option α} {Q : α → Tau → Prop} : W (okV x τ) Q E = WO x fun a => Q a τ := by cases x <;> rfl
@[simp ↓] theorem w_bind {x : AP α} {k : α → Tau → AP β} {Q : β → Tau → Prop} : W (bindV x k) Q E = W x (fun a τ1 => W (k a τ1) Q E) E := by
  cases x with
  | none => rfl
  | some q => obtain ⟨r, τ1⟩ := q; cases r <;> rfl
theorem W.q {x : AP α} {Q Q' : α → Tau → Prop} (h : ∀ a τ, Q a τ = Q' a τ) : W x Q E = W x Q' E := by
  have e : Q = Q' := by funext a τ; exact h a τ
  subst e
  rfl
theorem WO.q {x : Option α} {Q Q' : α → Prop} (h : ∀ a, Q a = Q' a) : WO x Q = WO x Q' := by
  have e : Q = Q' := by funext a; exact h a
  subst e
  rfl
theorem W.mono {x : AP α} {Q Q' : α → Tau → Prop} {E' : XP → Tau → Prop} (h : W x Q E) (q : ∀ a τ, Q a τ → Q' a τ) (e : ∀ a τ, E a τ → E' a τ) : W x Q' E' := by
  cases x with
  | none => exact h
  | some y => obtain ⟨r, τ1⟩ := y; cases r <;> first | exact q _ _ h | exact e _ _ h
theorem W.to {x : AP α} {Q Q' : α → Tau → Prop} (h : W x Q) (q : ∀ a τ, Q a τ → Q' a τ) : W x Q' E := h.mono q fun _ _ h => h.elim
theorem W.ex {x : AP α} {Q : α → Tau → Prop} (h : W x Q) : ∃ a τ', x = some (.ok a, τ') ∧ Q a τ' := by
  cases x with
  | none => exact h.elim
  | some y => obtain ⟨r, τ1⟩ := y; cases r with
    | ok a => exact ⟨a, τ1, rfl, h⟩
    | ex e => exact h.elim
theorem W.eq {x : AP α} {a : α} (h : W x fun b τ' => b = a ∧ τ' = τ) : x = some (.ok a, τ) := by
  obtain ⟨b, τ', e, rfl, rfl⟩ := h.ex
  exact e
theorem W.of {x : AP α} {a : α} {Q : α → Tau → Prop} (h : x = some (.ok a, τ)) (q : Q a τ) : W x Q E := by rw [h]; exact q
theorem WP.mono {g : PE → Tau → AnsV} {Q Q' : OutP → PE → Tau → Prop} (h : WP g pe τ Q) (q : ∀ o pe τ, Q o pe τ → Q' o pe τ) : WP g pe τ Q' := by
  unfold WP at *
  cases hx : g pe τ with
  | none => rw [hx] at h; exact h.elim
  | some y => rw [hx] at h; obtain ⟨o, pe', τ'⟩ := y; exact q _ _ _ h
theorem WP.ex {g : PE → Tau → AnsV} {Q : OutP → PE → Tau → Prop} (h : WP g pe τ Q) : ∃ o pe' τ', g pe τ = some (o, pe', τ') ∧ Q o pe' τ' := by
  unfold WP at h
  cases hx : g pe τ with
  | none => rw [hx] at h; exact h.elim
  | some y => rw [hx] at h; obtain ⟨o, pe', τ'⟩ := y; exact ⟨_, _, _, rfl, h⟩
theorem WP.of {g : PE → Tau → AnsV} {Q : OutP → PE → Tau → Prop} {o : OutP} {pe' : PE} {τ' : Tau} (h : g pe τ = some (o, pe', τ')) (q : Q o pe' τ') : WP g pe τ Q := by
  unfold WP
  rw [h]
  exact q
variable {fa fb : PE → Tau → AP P} {fs gs : PE → Tau → AP (List P)} {ga gb : PE → Tau → AP Bool} {f g : PE → Tau → AnsV} {Q : P → Tau → Prop} {QL : List P → Tau → Prop} {QB : Bool → Tau → Prop} {R : OutP → PE → Tau → Prop}
@[simp] theorem kS_nx : kS g R .nx pe τ = WP g pe τ R := rfl
@[simp] theorem kS_rt {p : P} : kS g R (.rt p) pe τ = R (.rt p) pe τ := rfl
@[simp] theorem kS_ex {p : XP} : kS g R (.ex p) pe τ = R (.ex p) pe τ := rfl
@[simp] theorem kS_bk : kS g R .bk pe τ = R .bk pe τ := rfl
@[simp] theorem kS_ct : kS g R .ct pe τ = R .ct pe τ := rfl
@[simp] theorem kR_nx : kR Q E .nx pe τ = Q .non τ := rfl
@[simp] theorem kR_rt {p : P} : kR Q E (.rt p) pe τ = Q p τ := rfl
@[simp] theorem kR_ex {p : XP} : kR Q E (.ex p) pe τ = E p τ := rfl
@[simp] theorem kF_nx {I : PE → Tau → Prop} : kF I R .nx pe τ = I pe τ := rfl
@[simp] theorem kF_ct {I : PE → Tau → Prop} : kF I R .ct pe τ = I pe τ := rfl
@[simp] theorem kF_bk {I : PE → Tau → Prop} : kF I R .bk pe τ = R .nx pe τ := rfl
@[simp] theorem kF_rt {I : PE → Tau → Prop} {p : P} : kF I R (.rt p) pe τ = R (.rt p) pe τ := rfl
@[simp] theorem kF_ex {I : PE → Tau → Prop} {p : XP} : kF I R (.ex p) pe τ = R (.ex p) pe τ := rfl
/-! expressions -/
@[simp ↓] theorem we_var (i : Nat) : WE (vVar i) pe τ Q E = WO (pe[i]?.join) fun p => Q p τ := by
  unfold WE vVar
  cases pe[i]? with
  | none => rfl
  | some q => cases q <;> rfl
@[simp ↓] theorem we_c (p : P) : WE (vC p) pe τ Q E = Q p τ := rfl
@[simp ↓] theorem we_op (h : P → P → Option P) : WE (vOp h fa fb) pe τ Q E = WE fa pe τ (fun a τ1 => WE fb pe τ1 (fun b τ2 => WO (h a b) fun r => Q r τ2) E) E := by
  show W (bindV _ _) _ _ = _
  exact w_bind.trans (W.q fun a τ1 => w_bind.trans (W.q fun b τ2 => w_okV))
@[simp ↓] theorem we_un (h : P → Option P) : WE (vUn h fa) pe τ Q E = WE fa pe τ (fun a τ1 => WO (h a) fun r => Q r τ1) E := by
  show W (bindV _ _) _ _ = _
  exact w_bind.trans (W.q fun a τ1 => w_okV)
@[simp ↓] theorem we_nil : WE vNil pe τ QL E = QL [] τ := rfl
@[simp ↓] theorem we_cons : WE (vCons fa fs) pe τ QL E = WE fa pe τ (fun a τ1 => WE fs pe τ1 (fun r τ2 => QL (a :: r) τ2) E) E := by
  show W (bindV _ _) _ _ = _
  exact w_bind.trans (W.q fun a τ1 => w_bind.trans (W.q fun b τ2 => rfl))
@[simp ↓] theorem we_cb (h : List P → Option P) : WE (vCB h fs) pe τ Q E = WE fs pe τ (fun a τ1 => WO (h a) fun r => Q r τ1) E := by
  show W (bindV _ _) _ _ = _
  exact w_bind.trans (W.q fun a τ1 => w_okV)
@[simp ↓] theorem we_ss : WE (vSS fa) pe τ Q E = WE fa pe τ (fun a τ1 => WO (qSS a) fun r => Q r τ1) E := by
  show W (bindV _ _) _ _ = _
  exact w_bind.trans (W.q fun a τ1 => w_okV)
@[simp ↓] theorem we_tru : WE (vTru fa) pe τ QB E = WE fa pe τ (fun a τ1 => WO (truP a) fun r => QB r τ1) E := by
  show W (bindV _ _) _ _ = _
  exact w_bind.trans (W.q fun a τ1 => w_okV)
@[simp ↓] theorem we_bl : WE (vBl fa) pe τ QB E = WE fa pe τ (fun a τ1 => WO (pBl a) fun r => QB r τ1) E := by
  show W (bindV _ _) _ _ = _
  exact w_bind.trans (W.q fun a τ1 => w_okV)
@[simp ↓] theorem we_and : WE (vAnd ga gb) pe τ QB E = WE ga pe τ (fun a τ1 => iteP (a = true) (WE gb pe τ1 QB E) (QB false τ1)) E := by
  show W (bindV _ _) _ _ = _
  exact w_bind.trans (W.q fun a τ1 => w_ite)
@[simp ↓] theorem we_or : WE (vOr ga gb) pe τ QB E = WE ga pe τ (fun a τ1 => iteP (a = true) (QB true τ1) (WE gb pe τ1 QB E)) E := by
  show W (bindV _ _) _ _ = _
  exact w_bind.trans (W.q fun a τ1 => w_ite)
@[simp ↓] theorem we_not : WE (vNot ga) pe τ QB E = WE ga pe τ (fun a τ1 => QB (!a) τ1) E := by
  show W (bindV _ _) _ _ = _
  exact w_bind.trans (W.q fun a τ1 => rfl)
@[simp ↓] theorem we_andV : WE (vAndV fa fb) pe τ Q E = WE fa pe τ (fun a τ1 => WO (truP a) fun c => iteP (c = true) (WE fb pe τ1 Q E) (Q a τ1)) E := by
  show W (bindV _ _) _ _ = _
  exact w_bind.trans (W.q fun a τ1 => w_bind.trans (w_okV.trans (WO.q fun c => w_ite)))
@[simp ↓] theorem we_orV : WE (vOrV fa fb) pe τ Q E = WE fa pe τ (fun a τ1 => WO (truP a) fun c => iteP (c = true) (Q a τ1) (WE fb pe τ1 Q E)) E := by
  show W (bindV _ _) _ _ = _
  exact w_bind.trans (W.q fun a τ1 => w_bind.trans (w_okV.trans (WO.q fun c => w_ite)))
@[simp ↓] theorem we_notV : WE (vNotV fa) pe τ Q E = WE fa pe τ (fun a τ1 => WO (truP a) fun c => Q (.bl (!c)) τ1) E := by
  show W (bindV _ _) _ _ = _
  exact w_bind.trans (W.q fun a τ1 => w_bind.trans (w_okV.trans rfl))
@[simp ↓] theorem we_if : WE (vIf ga fa fb) pe τ Q E = WE ga pe τ (fun c τ1 => iteP (c = true) (WE fa pe τ1 Q E) (WE fb pe τ1 Q E)) E := by
  show W (bindV _ _) _ _ = _
  exact w_bind.trans (W.q fun a τ1 => w_ite)
@[simp ↓] theorem we_call (G : MirV) : WE (vCall G gs) pe τ Q E = WE gs pe τ (fun ps τ1 => W (vCallP G ps τ1) Q E) E := by
  show W (bindV _ _) _ _ = _
  exact w_bind
@[simp ↓] theorem we_callD (G : MirV) (dd : List P) : WE (vCallD G dd gs) pe τ Q E = WE gs pe τ (fun ps τ1 => W (vCallP G (ps ++ dd) τ1) Q E) E := by
  show W (bindV _ _) _ _ = _
  exact w_bind
@[simp ↓] theorem we_callK (G : MirV) (n k : Nat) : WE (vCallK G n k gs fs) pe τ Q E = WE gs pe τ (fun ps τ1 => WE fs pe τ1 (fun qs τ2 => andP (ps.length = n ∧ qs.length = k) (W (vCallP G (ps ++ qs) τ2) Q E)) E) E := by
  have key : ∀ (c : Prop) [Decidable c] (x : AP P), W (if c then x else none) Q E = andP c (W x Q E) := fun c _ x => by
    unfold andP
    by_cases h : c <;> simp [h, W]
  show W (bindV _ _) _ _ = _
  exact w_bind.trans (W.q fun a τ1 => w_bind.trans (W.q fun b τ2 => key _ _))
theorem w_flat {x : AP P} : W (flatR x) Q E = W x (fun p τ1 => andP (p.flat = true) (Q p τ1)) := by
  cases x with
  | none => rfl
  | some y =>
    obtain ⟨r, τ1⟩ := y
    cases r with
    | ex e => rfl
    | ok p =>
      simp only [flatR, wp_some]
      unfold andP
      by_cases h : p.flat = true
      · simp [h]
      · simp [h, W]
@[simp ↓] theorem w_callP (G : MirV) (ps : List P) : W (vCallP G ps τ) Q E = iteP (ps.any P.isOwn = true) (W (G (ps.map P.thaw) τ) (fun p τ1 => andP (p.flat = true) (Q p τ1))) (W (G ps τ) Q E) := by
  unfold vCallP
  rw [w_ite, w_flat]
theorem w_flatA {x : AP P} : W (flatA x) Q E = W x (fun p τ1 => andP (p.flat = true) (Q p τ1)) := by
  cases x with
  | none => rfl
  | some y =>
    obtain ⟨r, τ1⟩ := y
    cases r with
    | ex e => rfl
    | ok p =>
      simp only [flatA, wp_some]
      unfold andP
      by_cases h : p.flat = true
      · simp [h]
      · simp [h, W]
@[simp ↓] theorem we_lend (i : Nat) : WE (vLend i fa) pe τ Q E = WE fa (thawAt i pe) τ (fun p τ1 => andP (p.flat = true) (Q p τ1)) := by
  show W (flatA _) _ _ = _
  rw [w_flatA]
  rfl
def isiP (T : String) (p : P) : Option Bool := match tyP p with
  | some n => kitB n T
  | none => none
@[simp ↓] theorem we_isi (T : String) : WE (vIsi T fa) pe τ Q E = WE fa pe τ (fun a τ1 => WO (isiP T a) fun b => Q (.bl b) τ1) E := by
  show W (bindV _ _) _ _ = _
  refine w_bind.trans (W.q fun a τ1 => ?_)
  unfold isiP
  cases tyP a with
  | none => rfl
  | some n => simp only; cases kitB n T <;> rfl
@[simp] theorem isiP_def (T : String) (p : P) : isiP T p = match tyP p with
  | some n => kitB n T
  | none => none := rfl
def intP : P → Option Int
  | .int i => some i
  | _ => none
@[simp] theorem intP_int (i : Int) : intP (.int i) = some i := rfl
def WOp (fl : Option (PE → Tau → AP P)) (pe : PE) (τ : Tau) (Q : Option Int → Tau → Prop) (E : XP → Tau → Prop) (tq : Tk Q := tk) (te : Tk E := tk) : Prop := W (vOpt fl pe τ) Q E
@[simp ↓] theorem wop_none {Q : Option Int → Tau → Prop} : WOp none pe τ Q E = Q none τ := rfl
@[simp ↓] theorem wop_some {Q : Option Int → Tau → Prop} : WOp (some fa) pe τ Q E = WE fa pe τ (fun d τ1 => WO (intP d) fun i => Q (some i) τ1) E := by
  show W (bindV _ _) _ _ = _
  refine w_bind.trans (W.q fun a τ1 => ?_)
  cases a <;> rfl
@[simp ↓] theorem we_sl (fl fh : Option (PE → Tau → AP P)) : WE (vSl fa fl fh) pe τ Q E = WE fa pe τ (fun a τ1 => WOp fl pe τ1 (fun lo τ2 => WOp fh pe τ2 (fun hi τ3 => WO (pSl a lo hi) fun r => Q r τ3) E) E) E := by
  show W (bindV _ _) _ _ = _
  exact w_bind.trans (W.q fun a τ1 => w_bind.trans (W.q fun lo τ2 => w_bind.trans (W.q fun hi τ3 => w_okV)))
@[simp ↓] theorem we_slL (fl fh : Option (PE → Tau → AP P)) : WE (vSlL fa fl fh) pe τ Q E = WE fa pe τ (fun a τ1 => WOp fl pe τ1 (fun lo τ2 => WOp fh pe τ2 (fun hi τ3 => WO (match pSl a lo hi with | some (.lst l) => some (.lst l) | _ => none) fun r => Q r τ3) E) E) E := by
  show W (bindV _ _) _ _ = _
  exact w_bind.trans (W.q fun a τ1 => w_bind.trans (W.q fun lo τ2 => w_bind.trans (W.q fun hi τ3 => w_okV)))
@[simp ↓] theorem we_true : WE vTrue pe τ QB E = QB true τ := rfl
@[simp ↓] theorem we_dnew : WE vDNew pe τ Q E = Q (.dct []) τ := rfl
@[simp ↓] theorem we_lc (gw : PE → Tau → AP (List P)) (tg : Tg) (vs : List Nat) : WE (vLc gw tg ga fa vs) pe τ Q E = WE gw pe τ (fun l τ1 => andP (l.length ≤ sizeLine) (WL (lcV tg ga fa (wipeV pe vs) l τ1) fun ps τ2 => Q (.lst ps) τ2)) E := by
  show W (bindV _ _) _ _ = _
  refine w_bind.trans (W.q fun l τ1 => ?_)
  unfold andP
  by_cases h : l.length ≤ sizeLine
  · rw [if_pos h]
    cases lcV tg ga fa (wipeV pe vs) l τ1 with
    | none => simp [W, WL, h]
    | some q => simp [W, WL, h]
  · rw [if_neg h]
    simp [W, h]
@[simp ↓] theorem we_lc2 (gw gw1 : PE → Tau → AP (List P)) (tg tg1 : Tg) (vs vs1 : List Nat) : WE (vLc2 gw tg ga gw1 tg1 gb fa vs vs1) pe τ Q E = WE gw pe τ (fun l τ1 => WL (lcV2 tg ga gw1 tg1 gb fa vs1 (wipeV pe vs) l 0 τ1) fun ps τ2 => Q (.lst ps) τ2) E := by
  show W (bindV _ _) _ _ = _
  refine w_bind.trans (W.q fun l τ1 => ?_)
  cases lcV2 tg ga gw1 tg1 gb fa vs1 (wipeV pe vs) l 0 τ1 with
  | none => simp [W, WL]
  | some q => simp [W, WL]
@[simp ↓] theorem we_wseq : WE (wvSeq fa) pe τ QL E = WE fa pe τ (fun d τ1 => WO (items d) fun l => QL l τ1) E := by
  show W (bindV _ _) _ _ = _
  exact w_bind.trans (W.q fun a τ1 => w_okV)
@[simp ↓] theorem we_wseqC : WE (wvSeqC fa) pe τ QL E = WE fa pe τ (fun d τ1 => WO (itemsC d) fun l => QL l τ1) E := by
  show W (bindV _ _) _ _ = _
  exact w_bind.trans (W.q fun a τ1 => w_okV)
@[simp ↓] theorem we_wseqX : WE (wvSeqX fa) pe τ QL E = WE fa pe τ (fun d τ1 => WO (rotP d) fun l => QL l τ1) E := by
  show W (bindV _ _) _ _ = _
  exact w_bind.trans (W.q fun a τ1 => w_okV)
@[simp ↓] theorem we_wrange : WE (wvRange gs) pe τ QL E = WE gs pe τ (fun d τ1 => WO (qRange d) fun l => QL l τ1) E := by
  show W (bindV _ _) _ _ = _
  exact w_bind.trans (W.q fun a τ1 => w_okV)
@[simp ↓] theorem we_wrev : WE (wvRev fa) pe τ QL E = WE fa pe τ (fun d τ1 => WO (items d) fun l => QL l.reverse τ1) E := by
  show W (bindV _ _) _ _ = _
  exact w_bind.trans (W.q fun a τ1 => w_okV.trans wo_map)
@[simp ↓] theorem we_wrevC : WE (wvRevC fa) pe τ QL E = WE fa pe τ (fun d τ1 => WO (itemsC d) fun l => QL l.reverse τ1) E := by
  show W (bindV _ _) _ _ = _
  exact w_bind.trans (W.q fun a τ1 => w_okV.trans wo_map)
@[simp ↓] theorem we_wenum : WE (wvEnum gs) pe τ QL E = WE gs pe τ (fun d τ1 => WO (qEnum d) fun l => QL l τ1) E := by
  show W (bindV _ _) _ _ = _
  exact w_bind.trans (W.q fun a τ1 => w_okV)
@[simp ↓] theorem we_wenumC : WE (wvEnumC gs) pe τ QL E = WE gs pe τ (fun d τ1 => WO (qEnumC d) fun l => QL l τ1) E := by
  show W (bindV _ _) _ _ = _
  exact w_bind.trans (W.q fun a τ1 => w_okV)
@[simp ↓] theorem we_wzip : WE (wvZip gs) pe τ QL E = WE gs pe τ (fun d τ1 => WO (qZip d) fun l => QL l τ1) E := by
  show W (bindV _ _) _ _ = _
  exact w_bind.trans (W.q fun a τ1 => w_okV)
@[simp ↓] theorem we_wzipC : WE (wvZipC gs) pe τ QL E = WE gs pe τ (fun d τ1 => WO (qZipC d) fun l => QL l τ1) E := by
  show W (bindV _ _) _ _ = _
  exact w_bind.trans (W.q fun a τ1 => w_okV)
def strP : P → Option Str
  | .str x => some x
  | _ => none
@[simp] theorem strP_str (x : Str) : strP (.str x) = some x := rfl
@[simp ↓] theorem we_wstr : WE (wvStr fa) pe τ QL E = WE fa pe τ (fun d τ1 => WO (strP d) fun x => QL (charsP x) τ1) E := by
  show W (bindV _ _) _ _ = _
  refine w_bind.trans (W.q fun a τ1 => ?_)
  cases a <;> rfl
@[simp ↓] theorem we_dm : WE (vDM fa gs) pe τ Q E = WE fa pe τ (fun a τ1 => andP ((dctP a).isSome = true) (WE gs pe τ1 (fun ds τ2 => WO (pDGet a ds) fun r => Q r τ2) E)) E := by
  show W (bindV _ _) _ _ = _
  refine w_bind.trans (W.q fun a τ1 => ?_)
  unfold andP
  by_cases h : (dctP a).isSome = true
  · simp only [h, if_true, true_and]
    exact w_bind.trans (W.q fun a τ1 => w_okV)
  · simp [h, W]
@[simp ↓] theorem we_pairs0 : WE (vPairs []) pe τ QL E = QL [] τ := rfl
@[simp ↓] theorem we_pairs1 (p : (PE → Tau → AP P) × (PE → Tau → AP P)) (r : List ((PE → Tau → AP P) × (PE → Tau → AP P))) : WE (vPairs (p :: r)) pe τ QL E = WE p.1 pe τ (fun k τ1 => WE p.2 pe τ1 (fun v τ2 => andP (¬ (k.isOwn = true ∨ v.isOwn = true)) (WE (vPairs r) pe τ2 (fun l τ3 => QL (.tup [k, v] :: l) τ3) E)) E) E := by
  show W (bindV _ _) _ _ = _
  refine w_bind.trans (W.q fun a τ1 => ?_)
  refine w_bind.trans (W.q fun b τ2 => ?_)
  unfold andP
  by_cases h : a.isOwn = true ∨ b.isOwn = true
  · simp [h, W]
  · simp only [h, if_false, not_false_eq_true, true_and]
    exact w_bind.trans (W.q fun a τ1 => rfl)
@[simp ↓] theorem we_disp (gs : List ((PE → Tau → AP P) × (PE → Tau → AP P))) : WE (vDisp gs) pe τ Q E = WE (vPairs gs) pe τ (fun l τ1 => andP (l.all isPr = true ∧ l.length ≤ 15) (Q (.dct (mergeP [] l)) τ1)) E := by
  show W (bindV _ _) _ _ = _
  refine w_bind.trans (W.q fun a τ1 => ?_)
  unfold andP
  by_cases h : a.all isPr = true ∧ a.length ≤ 15
  · rw [if_pos h]
    exact propext (and_iff_right h).symm
  · rw [if_neg h]
    exact propext ⟨fun q => q.elim, fun q => h q.1⟩
/-! statements -/
theorem wp_bindS {β : Type} {x : AP β} {k : β → Tau → AnsV} : WP (fun _ _ => bindSV x pe k) pe τ R = W x (fun a τ1 => WP (fun _ _ => k a τ1) pe τ1 R) (fun e τ1 => R (.ex e) pe τ1) := by
  unfold WP
  cases x with
  | none => rfl
  | some q => obtain ⟨r, τ1⟩ := q; cases r <;> rfl
@[simp ↓] theorem wp_next : WP vNext pe τ R = R .nx pe τ := rfl
@[simp ↓] theorem wp_break : WP vBreak pe τ R = R .bk pe τ := rfl
@[simp ↓] theorem wp_cont : WP vCont pe τ R = R .ct pe τ := rfl
@[simp ↓] theorem wp_retN : WP vRetN pe τ R = R (.rt .non) pe τ := rfl
@[simp ↓] theorem wp_seq : WP (vSeq f g) pe τ R = WP f pe τ (fun o pe1 τ1 => kS g R o pe1 τ1) := by
  unfold WP vSeq
  cases f pe τ with
  | none => rfl
  | some q => obtain ⟨o, pe1, τ1⟩ := q; cases o <;> rfl
@[simp ↓] theorem wp_thaw (i : Nat) : WP (vThaw i g) pe τ R = WP g (thawAt i pe) τ R := rfl
theorem wp_bs {β : Type} {e : PE → Tau → AP β} {k : β → Tau → AnsV} {h : PE → Tau → AnsV} (hh : h pe τ = bindSV (e pe τ) pe k) : WP h pe τ R = WE e pe τ (fun a τ1 => WP (fun _ _ => k a τ1) pe τ1 R) (fun e τ1 => R (.ex e) pe τ1) := by
  unfold WP WE
  rw [hh]
  cases e pe τ with
  | none => rfl
  | some q => obtain ⟨r, τ1⟩ := q; cases r <;> rfl
@[simp ↓] theorem wp_asg (tg : Tg) : WP (vAsg tg fa) pe τ R = WE fa pe τ (fun p τ1 => WO (putP tg p pe) fun pe1 => R .nx pe1 τ1) (fun e τ1 => R (.ex e) pe τ1) := by
  refine (wp_bs (e := fa) rfl).trans (W.q fun a τ1 => ?_)
  unfold WP
  cases putP tg a pe <;> rfl
def lstP : P → Option (List P)
  | .lst l => some l
  | _ => none
@[simp] theorem lstP_lst (l : List P) : lstP (.lst l) = some l := rfl
@[simp ↓] theorem wp_asgO (i : Nat) : WP (vAsgO i fa) pe τ R = WE fa pe τ (fun p τ1 => WO (lstP p) fun l => R .nx (pe.set i (some (.own l))) τ1) (fun e τ1 => R (.ex e) pe τ1) := by
  refine (wp_bs (e := fa) rfl).trans (W.q fun a τ1 => ?_)
  cases a <;> rfl
def dcP : P → Option (List P)
  | .dct l => some l
  | _ => none
@[simp] theorem dcP_dct (l : List P) : dcP (.dct l) = some l := rfl
@[simp ↓] theorem wp_asgD (i : Nat) : WP (vAsgD i fa) pe τ R = WE fa pe τ (fun p τ1 => WO (dcP p) fun l => R .nx (pe.set i (some (.ownd l))) τ1) (fun e τ1 => R (.ex e) pe τ1) := by
  refine (wp_bs (e := fa) rfl).trans (W.q fun a τ1 => ?_)
  cases a <;> rfl
@[simp ↓] theorem wp_expr : WP (vExpr fa) pe τ R = WE fa pe τ (fun p τ1 => R .nx pe τ1) (fun e τ1 => R (.ex e) pe τ1) := by
  rw [wp_bs (e := fa) rfl]
  rfl
@[simp ↓] theorem wp_ret : WP (vRet fa) pe τ R = WE fa pe τ (fun p τ1 => R (.rt p.thaw) pe τ1) (fun e τ1 => R (.ex e) pe τ1) := by
  rw [wp_bs (e := fa) rfl]
  rfl
@[simp ↓] theorem wp_ifS : WP (vIfS ga f g) pe τ R = WE ga pe τ (fun c τ1 => iteP (c = true) (WP f pe τ1 R) (WP g pe τ1 R)) (fun e τ1 => R (.ex e) pe τ1) := by
  refine (wp_bs (e := ga) rfl).trans (W.q fun a τ1 => ?_)
  unfold iteP
  cases a <;> simp [WP]
@[simp ↓] theorem wp_for (tg : Tg) : WP (vFor gs tg g) pe τ R = WE gs pe τ (fun l τ1 => WF tg g l pe τ1 R) (fun e τ1 => R (.ex e) pe τ1) := by
  rw [wp_bs (e := gs) rfl]
  rfl
def ownP : P → Option (List P)
  | .own l => some l
  | _ => none
def owndP : P → Option (List P)
  | .ownd l => some l
  | _ => none
def ownAt (pe : PE) (i : Nat) : Option (List P) := (pe[i]?.join).bind ownP
def owndAt (pe : PE) (i : Nat) : Option (List P) := (pe[i]?.join).bind owndP
@[simp] theorem ownAt_def {i : Nat} : ownAt pe i = (pe[i]?.join).bind ownP := rfl
@[simp] theorem owndAt_def {i : Nat} : owndAt pe i = (pe[i]?.join).bind owndP := rfl
@[simp] theorem ownP_own (l : List P) : ownP (.own l) = some l := rfl
@[simp] theorem owndP_ownd (l : List P) : owndP (.ownd l) = some l := rfl
theorem ownAt_some {i : Nat} {l : List P} (h : ownAt pe i = some l) : pe[i]? = some (some (.own l)) := by
  unfold ownAt at h
  cases e : pe[i]? with
  | none => rw [e] at h; cases h
  | some q =>
    cases q with
    | none => rw [e] at h; cases h
    | some p => rw [e] at h; cases p <;> first | (cases h; rfl) | cases h
theorem owndAt_some {i : Nat} {l : List P} (h : owndAt pe i = some l) : pe[i]? = some (some (.ownd l)) := by
  unfold owndAt at h
  cases e : pe[i]? with
  | none => rw [e] at h; cases h
  | some q =>
    cases q with
    | none => rw [e] at h; cases h
    | some p => rw [e] at h; cases p <;> first | (cases h; rfl) | cases h
theorem ownAt_none {i : Nat} (h : ownAt pe i = none) : ∀ l, pe[i]? ≠ some (some (.own l)) := fun l e => by
  unfold ownAt at h
  rw [e] at h
  cases h
theorem owndAt_none {i : Nat} (h : owndAt pe i = none) : ∀ l, pe[i]? ≠ some (some (.ownd l)) := fun l e => by
  unfold owndAt at h
  rw [e] at h
  cases h
@[simp ↓] theorem wp_append (i : Nat) : WP (vAppend i fa) pe τ R = WO (ownAt pe i) fun l => WE fa pe τ (fun p τ1 => andP (p.isOwn = false) (andP (l.length < sizeLine) (R .nx (pe.set i (some (.own (l ++ [p])))) τ1))) (fun e τ1 => R (.ex e) pe τ1) := by
  cases h : ownAt pe i with
  | none =>
    have h := ownAt_none h
    show WP (vAppend i fa) pe τ R = False
    unfold WP vAppend
    split
    · rfl
    · rename_i e
      split at e
      · rename_i q; exact absurd q (h _)
      · cases e
  | some l =>
    have h := ownAt_some h
    rw [wo_some, wp_bs (e := fa) (k := fun p τ1 => if p.isOwn = true then none else if l.length < sizeLine then some (.nx, pe.set i (some (.own (l ++ [p]))), τ1) else none) (by unfold vAppend; simp only [h])]
    refine W.q fun a τ1 => ?_
    unfold andP WP
    by_cases h1 : a.isOwn = true
    · simp [h1]
    · by_cases h2 : l.length < sizeLine
      · simp [h1, h2]
      · simp [h1, h2]
@[simp ↓] theorem wp_retF (i : Nat) : WP (vRetF i) pe τ R = WO (ownAt pe i) fun l => R (.rt (.lst l)) pe τ := by
  cases h : ownAt pe i with
  | none =>
    have h := ownAt_none h
    show WP (vRetF i) pe τ R = False
    unfold WP vRetF
    split
    · rfl
    · rename_i e
      split at e
      · rename_i l e2
        exact absurd e2 (h l)
      · cases e
  | some l =>
    have h := ownAt_some h
    rw [wo_some]
    unfold WP vRetF
    rw [h]
@[simp ↓] theorem wp_popS (i : Nat) : WP (vPopS i) pe τ R = WO (ownAt pe i) fun l => andP (l.length ≠ 0) (R .nx (pe.set i (some (.own l.dropLast))) τ) := by
  cases h : ownAt pe i with
  | none =>
    have h := ownAt_none h
    show WP _ pe τ R = False
    unfold WP vPopS
    split
    · rfl
    · rename_i e
      split at e
      · rename_i q; exact absurd q (h _)
      · cases e
  | some l =>
    have h := ownAt_some h
    rw [wo_some]
    unfold WP vPopS andP
    simp only [h]
    by_cases h1 : l.length = 0
    · simp [h1]
    · simp [h1]
def ixP (l : List P) : P → Option Nat
  | .int k => ixN l.length k
  | _ => none
@[simp] theorem ixP_int (l : List P) (k : Int) : ixP l (.int k) = ixN l.length k := rfl
@[simp ↓] theorem wp_setI (i : Nat) : WP (vSetI i fa fb) pe τ R = WE fa pe τ (fun p τ1 => WO (ownAt pe i) fun l => WE fb pe τ1 (fun k τ2 => andP (p.isOwn = false) (WO (ixP l k) fun j => R .nx (pe.set i (some (.own (l.set j p)))) τ2)) (fun e τ1 => R (.ex e) pe τ1)) (fun e τ1 => R (.ex e) pe τ1) := by
  refine (wp_bs (e := fa) rfl).trans (W.q fun a τ1 => ?_)
  cases h : ownAt pe i with
  | none =>
    have h := ownAt_none h
    show WP _ pe τ1 R = False
    unfold WP
    split
    · rfl
    · rename_i e
      split at e
      · rename_i q; exact absurd q (h _)
      · cases e
  | some l =>
    have h := ownAt_some h
    rw [wo_some]
    simp only [h]
    show WP (fun _ _ => bindSV (fb pe τ1) pe _) pe τ1 R = _
    rw [wp_bindS]
    show W _ _ _ = W _ _ _
    refine W.q fun k τ2 => ?_
    unfold andP WP
    by_cases h1 : a.isOwn = true
    · simp [h1]
    · cases k <;> simp [h1, ixP, WO]
      rename_i k
      cases ixN l.length k <;> rfl
@[simp ↓] theorem wp_setD (i : Nat) : WP (vSetD i fa fb) pe τ R = WE fa pe τ (fun p τ1 => WO (owndAt pe i) fun l => WE fb pe τ1 (fun k τ2 => andP (p.isOwn = false) (WO (keyP k) fun kk => andP (l.length < sizeLine) (R .nx (pe.set i (some (.ownd (dputP l kk p)))) τ2))) (fun e τ1 => R (.ex e) pe τ1)) (fun e τ1 => R (.ex e) pe τ1) := by
  refine (wp_bs (e := fa) rfl).trans (W.q fun a τ1 => ?_)
  cases h : owndAt pe i with
  | none =>
    have h := owndAt_none h
    show WP _ pe τ1 R = False
    unfold WP
    split
    · rfl
    · rename_i e
      split at e
      · rename_i q; exact absurd q (h _)
      · cases e
  | some l =>
    have h := owndAt_some h
    rw [wo_some]
    simp only [h]
    show WP (fun _ _ => bindSV (fb pe τ1) pe _) pe τ1 R = _
    rw [wp_bindS]
    show W _ _ _ = W _ _ _
    refine W.q fun k τ2 => ?_
    unfold andP WP
    by_cases h1 : a.isOwn = true
    · simp [h1]
    · cases hk : keyP k with
      | none => simp [h1, WO]
      | some kk =>
        by_cases h2 : l.length < sizeLine
        · simp [h1, h2]
        · simp [h1, h2]
@[simp ↓] theorem wp_aug (i : Nat) (h : P → P → Option P) : WP (vAug i h fa) pe τ R = WO (pe[i]?.join) fun x => WE fa pe τ (fun y τ1 => WO (h x y) fun z => andP (z.isOwn = false) (R .nx (pe.set i (some z)) τ1)) (fun e τ1 => R (.ex e) pe τ1) := by
  cases hx : pe[i]? with
  | none =>
    show _ = False
    unfold WP vAug
    simp only [hx]
  | some q =>
    cases q with
    | none =>
      show _ = False
      unfold WP vAug
      simp only [hx]
    | some x =>
      show _ = WE _ _ _ _ _
      rw [wp_bs (e := fa) (k := fun y τ1 => match h x y with
        | some z => if z.isOwn = true then none else some (.nx, pe.set i (some z), τ1)
        | none => none) (by unfold vAug; simp only [hx] <;> rfl)]
      refine W.q fun a τ1 => ?_
      unfold WP
      cases h x a with
      | none => rfl
      | some z =>
        simp only [wo_some]
        unfold andP
        by_cases h1 : z.isOwn = true
        · simp [h1]
        · simp [h1]
@[simp ↓] theorem wp_move (i j : Nat) : WP (vMove i j) pe τ R = WO (pe[j]?.join) fun p => andP (p.isOwn = true ∧ i ≠ j) (R .nx ((pe.set i (some p)).set j none) τ) := by
  unfold WP vMove
  cases hx : pe[j]? with
  | none => rfl
  | some q =>
    cases q with
    | none => rfl
    | some p =>
      simp only [Option.join_some, wo_some]
      unfold andP
      by_cases h1 : p.isOwn = true ∧ i ≠ j
      · simp [h1]
      · simp [h1]
@[simp ↓] theorem wp_appPop (i j : Nat) : WP (vAppPop i j fa) pe τ R = WO (ownAt pe i) fun l => WO (ownAt pe j) fun m => WE fa pe τ (fun k τ1 => WO (intP k) fun k => andP (i ≠ j ∧ 0 ≤ k ∧ k ≤ 1000000000 ∧ l.length < sizeLine) (WO (m[k.toNat]?) fun p => R .nx ((pe.set j (some (.own (m.eraseIdx k.toNat)))).set i (some (.own (l ++ [p])))) τ1)) (fun e τ1 => R (.ex e) pe τ1) := by
  cases h : ownAt pe i with
  | none =>
    have h := ownAt_none h
    show WP _ pe τ R = False
    unfold WP vAppPop
    split
    · rfl
    · rename_i e
      split at e
      · rename_i q _; exact absurd q (h _)
      · cases e
  | some l =>
    have h := ownAt_some h
    rw [wo_some]
    cases h2 : ownAt pe j with
    | none =>
      have h2 := ownAt_none h2
      show WP _ pe τ R = False
      unfold WP vAppPop
      split
      · rfl
      · rename_i e
        split at e
        · rename_i q; exact absurd q (h2 _)
        · cases e
    | some m =>
      have h2 := ownAt_some h2
      rw [wo_some]
      rw [wp_bs (e := fa) (k := fun k τ1 => match k with
        | .int k => if i ≠ j ∧ 0 ≤ k ∧ k ≤ 1000000000 ∧ l.length < sizeLine then match m[k.toNat]? with
          | some p => some (.nx, (pe.set j (some (.own (m.eraseIdx k.toNat)))).set i (some (.own (l ++ [p]))), τ1)
          | none => none
          else none
        | _ => none) (by unfold vAppPop; simp only [h, h2] <;> rfl)]
      refine W.q fun k τ1 => ?_
      unfold WP
      cases k <;> first | rfl | skip
      rename_i k
      simp only [intP_int, wo_some]
      unfold andP
      by_cases h1 : i ≠ j ∧ 0 ≤ k ∧ k ≤ 1000000000 ∧ l.length < sizeLine
      · rw [if_pos h1]
        cases m[k.toNat]? <;> simp [h1, WO]
      · rw [if_neg h1]
        simp [h1]
@[simp ↓] theorem w_run (n m : Nat) (ps : List P) : W (runV n m f ps τ) Q E = andP (ps.length = n) (WP f (ps.map some ++ List.replicate (m - n) none) τ (fun o pe1 τ1 => kR Q E o pe1 τ1)) := by
  unfold runV andP
  by_cases h : ps.length = n
  · rw [if_pos h]
    unfold WP
    cases hf : f (ps.map some ++ List.replicate (m - n) none) τ with
    | none => simp [h, W]
    | some q => obtain ⟨o, pe1, τ1⟩ := q; cases o <;> simp [h, W, kR]
  · rw [if_neg h]
    simp [h, W]
/-! defs that write into parameters -/
@[simp] theorem plainX_nil (k : Nat) (ps : List P) : plainX k [] ps = ps.all fun p => !p.isOwn := by unfold plainX; rfl
@[simp] theorem plainX_cons (k j : Nat) (js : List Nat) (p : P) (ps : List P) : plainX k (j :: js) (p :: ps) = if k = j then p.isOw1 && plainX (k + 1) js ps else !p.isOwn && plainX (k + 1) (j :: js) ps := by rw [plainX]
@[simp] theorem setX_nil (qs : List P) : setX [] qs pe = pe := rfl
@[simp] theorem setX_cons (i : Nat) (is : List Nat) (q : P) (qs : List P) : setX (i :: is) (q :: qs) pe = setX is qs (pe.set i (some q)) := rfl
@[simp] theorem outs_nil : outs pe [] = some [] := rfl
@[simp] theorem outs_cons (j : Nat) (js : List Nat) : outs pe (j :: js) = match pe[j]? with
    | some (some p) => if p.isOw1 = true then (outs pe js).map (p :: ·) else none
    | _ => none := rfl
theorem wp_ioV {js is : List Nat} {G : MirIO} {k : P → PE → Tau → AnsV} : WP (fun pe τ => ioV (α := P) js is G gs pe τ k) pe τ R = WE gs pe τ (fun ps τ1 => andP (plainX 0 js ps = true) (W (G ps τ1) (fun r τ2 => WP (fun _ _ => k r.1 (setX is r.2 pe) τ2) pe τ R) (fun e τ2 => R (.ex e) (wipeV pe is) τ2))) (fun e τ1 => R (.ex e) pe τ1) := by
  refine (wp_bs (e := gs) rfl).trans (W.q fun ps τ1 => ?_)
  unfold andP
  by_cases h : plainX 0 js ps = true
  · simp only [h, if_true, true_and]
    unfold WP
    cases G ps τ1 with
    | none => rfl
    | some q => obtain ⟨r, τ2⟩ := q; cases r <;> rfl
  · simp [h, WP]
@[simp ↓] theorem wp_exprIO (js is : List Nat) (G : MirIO) : WP (vExprIO js is G gs) pe τ R = WE gs pe τ (fun ps τ1 => andP (plainX 0 js ps = true) (W (G ps τ1) (fun r τ2 => R .nx (setX is r.2 pe) τ2) (fun e τ2 => R (.ex e) (wipeV pe is) τ2))) (fun e τ1 => R (.ex e) pe τ1) := wp_ioV
@[simp ↓] theorem wp_retIO (js is : List Nat) (G : MirIO) : WP (vRetIO js is G gs) pe τ R = WE gs pe τ (fun ps τ1 => andP (plainX 0 js ps = true) (W (G ps τ1) (fun r τ2 => R (.rt r.1) (setX is r.2 pe) τ2) (fun e τ2 => R (.ex e) (wipeV pe is) τ2))) (fun e τ1 => R (.ex e) pe τ1) := wp_ioV
theorem andP.q {c A B : Prop} (h : A = B) : andP c A = andP c B := by subst h; rfl
@[simp ↓] theorem wp_asgIO (tg : Tg) (js is : List Nat) (G : MirIO) : WP (vAsgIO tg js is G gs) pe τ R = WE gs pe τ (fun ps τ1 => andP (plainX 0 js ps = true) (W (G ps τ1) (fun r τ2 => WO (putP tg r.1 (setX is r.2 pe)) fun pe2 => R .nx pe2 τ2) (fun e τ2 => R (.ex e) (wipeV pe is) τ2))) (fun e τ1 => R (.ex e) pe τ1) := by
  refine wp_ioV.trans (W.q fun ps τ1 => andP.q (W.q fun r τ2 => ?_))
  unfold WP
  cases putP tg r.1 (setX is r.2 pe) <;> rfl
@[simp ↓] theorem wp_ifIO (js is : List Nat) (G : MirIO) : WP (vIfIO js is G gs f g) pe τ R = WE gs pe τ (fun ps τ1 => andP (plainX 0 js ps = true) (W (G ps τ1) (fun r τ2 => WO (truP r.1) fun c => iteP (c = true) (WP f (setX is r.2 pe) τ2 R) (WP g (setX is r.2 pe) τ2 R)) (fun e τ2 => R (.ex e) (wipeV pe is) τ2))) (fun e τ1 => R (.ex e) pe τ1) := by
  refine wp_ioV.trans (W.q fun ps τ1 => andP.q (W.q fun r τ2 => ?_))
  show (match (match truP r.1 with | some true => f (setX is r.2 pe) τ2 | some false => g (setX is r.2 pe) τ2 | none => none) with | none => False | some (o, pe', τ') => R o pe' τ') = _
  cases truP r.1 with
  | none => rfl
  | some c =>
    unfold iteP
    cases c <;> simp [WP]
def kRIO (js : List Nat) (Q : P × List P → Tau → Prop) (E : XP → Tau → Prop) (o : OutP) (pe : PE) (τ : Tau) (tq : Tk Q := tk) (te : Tk E := tk) : Prop := match o with
  | .nx => WO (outs pe js) fun qs => Q (.non, qs) τ
  | .rt p => WO (outs pe js) fun qs => andP (okL p qs = true) (Q (p, qs) τ)
  | .ex e => E e τ
  | _ => False
@[simp] theorem kRIO_nx {js : List Nat} {Q : P × List P → Tau → Prop} : kRIO js Q E .nx pe τ = WO (outs pe js) fun qs => Q (.non, qs) τ := rfl
@[simp] theorem kRIO_rt {js : List Nat} {Q : P × List P → Tau → Prop} {p : P} : kRIO js Q E (.rt p) pe τ = WO (outs pe js) fun qs => andP (okL p qs = true) (Q (p, qs) τ) := rfl
@[simp] theorem okL_non (qs : List P) : okL .non qs = true := rfl
@[simp] theorem okL_int (i : Int) (qs : List P) : okL (.int i) qs = true := rfl
@[simp] theorem okL_bl (i : Bool) (qs : List P) : okL (.bl i) qs = true := rfl
@[simp] theorem okL_str (i : Str) (qs : List P) : okL (.str i) qs = true := rfl
@[simp] theorem okL_tup (l qs : List P) : okL (.tup l) qs = P.flats l := by simp [okL]
@[simp] theorem okL_lst (l qs : List P) : okL (.lst l) qs = (P.flats l && qs.all isOwnd) := by simp [okL, P.flat]
@[simp] theorem isOwnd_ownd (l : List P) : isOwnd (.ownd l) = true := rfl
@[simp] theorem kRIO_ex {js : List Nat} {Q : P × List P → Tau → Prop} {p : XP} : kRIO js Q E (.ex p) pe τ = E p τ := rfl
@[simp ↓] theorem w_runIO (n m : Nat) (js : List Nat) (ps : List P) {Q : P × List P → Tau → Prop} : W (runVIO n m js f ps τ) Q E = andP (ps.length = n) (WP f (ps.map some ++ List.replicate (m - n) none) τ (fun o pe1 τ1 => kRIO js Q E o pe1 τ1)) := by
  unfold runVIO andP
  by_cases h : ps.length = n
  · rw [if_pos h]
    unfold WP
    cases hf : f (ps.map some ++ List.replicate (m - n) none) τ with
    | none => simp [h, W]
    | some q =>
      obtain ⟨o, pe1, τ1⟩ := q
      cases o with
      | nx => cases ho : outs pe1 js <;> simp [h, W, kRIO, WO, ho]
      | rt p =>
        cases ho : outs pe1 js with
        | none => simp [h, W, kRIO, WO, ho]
        | some qs => by_cases hp : okL p qs = true <;> simp [h, W, kRIO, WO, hp, andP, ho]
      | bk => simp [h, W, kRIO]
      | ct => simp [h, W, kRIO]
      | ex e => simp [h, W, kRIO]
  · rw [if_neg h]
    simp [h, W]
/-! loops -/
theorem WF.nil {tg : Tg} : WF tg g [] pe τ R = R .nx pe τ := rfl
theorem WF.cons {tg : Tg} {x : P} {l : List P} : WF tg g (x :: l) pe τ R = WO (putP tg x pe) fun pe1 => WP g pe1 τ (fun o pe3 τ3 => kF (fun pe2 τ2 => WF tg g l pe2 τ2 R) R o pe3 τ3) := by
  unfold WF
  show (match forV tg g (x :: l) pe τ with | none => False | some (o, pe', τ') => R o pe' τ') = _
  unfold forV
  cases putP tg x pe with
  | none => rfl
  | some pe1 =>
    simp only [wo_some]
    unfold WP
    cases g pe1 τ with
    | none => rfl
    | some q => obtain ⟨o, pe2, τ2⟩ := q; cases o <;> rfl
theorem WO.mono {x : Option α} {A B : α → Prop} (h : WO x A) (q : ∀ a, A a → B a) : WO x B := by
  cases x with
  | none => exact h
  | some a => exact q a h
/-- a loop with an invariant -/
theorem WF.ix {tg : Tg} (Inv : Nat → PE → Tau → Prop) : ∀ (l : List P) (i : Nat) (pe : PE) (τ : Tau) (h0 : Inv i pe τ) (step : ∀ j x pe τ, l[j]? = some x → Inv (i + j) pe τ → WO (putP tg x pe) fun pe1 => WP g pe1 τ (fun o pe3 τ3 => kF (fun pe2 τ2 => Inv (i + j + 1) pe2 τ2) R o pe3 τ3)) (done : ∀ pe τ, Inv (i + l.length) pe τ → R .nx pe τ), WF tg g l pe τ R
  | [], i, pe, τ, h0, _, done => done pe τ h0
  | x :: l, i, pe, τ, h0, step, done => by
    rw [WF.cons]
    refine (step 0 x pe τ rfl h0).mono fun pe1 h => h.mono fun o pe2 τ2 h => ?_
    have go : Inv (i + 1) pe2 τ2 → WF tg g l pe2 τ2 R := fun h => WF.ix Inv l (i + 1) pe2 τ2 h (fun j y pe τ hy hj => by
        have q := step (j + 1) y pe τ (by simpa using hy) (by rw [show i + (j + 1) = i + 1 + j by omega]; exact hj)
        rw [show i + (j + 1) + 1 = i + 1 + j + 1 by omega] at q
        exact q) (fun pe τ h => done pe τ (by rw [show i + (x :: l).length = i + 1 + l.length by simp only [List.length_cons]; omega]; exact h))
    cases o <;> first | exact go h | exact h
theorem WF.inv {tg : Tg} {l : List P} (Inv : Nat → PE → Tau → Prop) (h0 : Inv 0 pe τ) (step : ∀ j x pe τ, l[j]? = some x → Inv j pe τ → WO (putP tg x pe) fun pe1 => WP g pe1 τ (fun o pe3 τ3 => kF (fun pe2 τ2 => Inv (j + 1) pe2 τ2) R o pe3 τ3)) (done : ∀ pe τ, Inv l.length pe τ → R .nx pe τ) : WF tg g l pe τ R :=
  WF.ix Inv l 0 pe τ h0 (fun j x pe τ hx hj => by rw [Nat.zero_add] at hj ⊢; exact step j x pe τ hx hj) (fun pe τ h => done pe τ (by rw [Nat.zero_add] at h; exact h))
theorem WF.rng {tg : Tg} {n : Nat} {m : Int} (Inv : Nat → PE → Tau → Prop) (h0 : Inv 0 pe τ) (step : ∀ j pe τ, j < n → Inv j pe τ → WO (putP tg (.int (j : Int)) pe) fun pe1 => WP g pe1 τ (fun o pe3 τ3 => kF (fun pe2 τ2 => Inv (j + 1) pe2 τ2) R o pe3 τ3)) (done : ∀ pe τ, Inv n pe τ → R .nx pe τ) (hm : m.toNat = n := by omega) : WF tg g (rangeP 0 m.toNat) pe τ R :=
  WF.inv Inv h0 (fun j x pe τ hx hj => by
    obtain ⟨a, rfl⟩ := rangeP_at hx
    exact step j pe τ (by omega) hj) (fun pe τ h => by rw [rangeP_len, hm] at h; exact done pe τ h)
theorem WF.rngN {tg : Tg} {n : Nat} (Inv : Nat → PE → Tau → Prop) (h0 : Inv 0 pe τ) (step : ∀ j pe τ, j < n → Inv j pe τ → WO (putP tg (.int (j : Int)) pe) fun pe1 => WP g pe1 τ (fun o pe3 τ3 => kF (fun pe2 τ2 => Inv (j + 1) pe2 τ2) R o pe3 τ3)) (done : ∀ pe τ, Inv n pe τ → R .nx pe τ) : WF tg g (rangeP 0 n) pe τ R :=
  WF.rng (m := n) Inv h0 step done
/-- over data, with what is behind -/
theorem WF.pre {tg : Tg} {enc : α → P} (Inv : List α → PE → Tau → Prop) {L : List α} (h0 : Inv [] pe τ) (step : ∀ pre a post pe τ, L = pre ++ a :: post → Inv pre pe τ → WO (putP tg (enc a) pe) fun pe1 => WP g pe1 τ (fun o pe3 τ3 => kF (fun pe2 τ2 => Inv (pre ++ [a]) pe2 τ2) R o pe3 τ3)) (done : ∀ pe τ, Inv L pe τ → R .nx pe τ) : WF tg g (L.map enc) pe τ R :=
  WF.inv (fun j => Inv (L.take j)) (by simpa using h0) (fun j x pe τ hx hj => by
    rw [List.getElem?_map] at hx
    cases ha : L[j]? with
    | none => rw [ha] at hx; cases hx
    | some a =>
      rw [ha] at hx
      cases hx
      have hl := (List.getElem?_eq_some_iff.mp ha).1
      have e1 : L = L.take j ++ a :: L.drop (j + 1) := by
        rw [← (List.getElem?_eq_some_iff.mp ha).2, ← List.drop_eq_getElem_cons hl, List.take_append_drop]
      have e2 : L.take (j + 1) = L.take j ++ [a] := by rw [List.take_succ, ha]; rfl
      rw [e2]
      exact step _ a _ pe τ e1 hj) (fun pe τ h => done pe τ (by rw [List.length_map, List.take_length] at h; exact h))
/-- over data, by places -/
theorem WF.dat {tg : Tg} {enc : α → P} (Inv : Nat → PE → Tau → Prop) {L : List α} (h0 : Inv 0 pe τ) (step : ∀ j a pe τ, L[j]? = some a → Inv j pe τ → WO (putP tg (enc a) pe) fun pe1 => WP g pe1 τ (fun o pe3 τ3 => kF (fun pe2 τ2 => Inv (j + 1) pe2 τ2) R o pe3 τ3)) (done : ∀ pe τ, Inv L.length pe τ → R .nx pe τ) : WF tg g (L.map enc) pe τ R :=
  WF.inv Inv h0 (fun j x pe τ hx hj => by
    rw [List.getElem?_map] at hx
    cases ha : L[j]? with
    | none => rw [ha] at hx; cases hx
    | some a =>
      rw [ha] at hx
      cases hx
      exact step j a pe τ ha hj) (fun pe τ h => done pe τ (by rw [List.length_map] at h; exact h))
/-! comprehensions -/
theorem WL.pre {tg : Tg} {enc : α → P} (Inv : List α → List P → Tau → Prop) {L : List α} (h0 : Inv [] [] τ) (step : ∀ pre a post acc τ, L = pre ++ a :: post → Inv pre acc τ → WO (putP tg (enc a) pe) fun pe1 => WE ga pe1 τ (fun b τ1 => iteP (b = true) (WE fa pe1 τ1 (fun p τ2 => andP (p.isOwn = false) (Inv (pre ++ [a]) (acc ++ [p]) τ2)) (fun _ _ => False)) (Inv (pre ++ [a]) acc τ1)) (fun _ _ => False)) (done : ∀ acc τ, Inv L acc τ → QL acc τ) : WL (lcV tg ga fa pe (L.map enc) τ) QL := by
  have key : ∀ (m pre : List α) (acc : List P) (τ : Tau), L = pre ++ m → Inv pre acc τ → WL (lcV tg ga fa pe (m.map enc) τ) fun l τ' => Inv L (acc ++ l) τ' := by
    intro m
    induction m with
    | nil =>
      intro pre acc τ e h
      rw [List.append_nil] at e
      subst e
      simpa [lcV] using h
    | cons x m ih =>
      intro pre acc τ e h
      have s := step pre x m acc τ e h
      rw [List.map_cons]
      unfold lcV
      cases hp : putP tg (enc x) pe with
      | none => rw [hp] at s; exact s.elim
      | some pe1 =>
        rw [hp] at s
        simp only [wo_some] at s
        simp only
        unfold WE at s
        obtain ⟨b, τ1, e1, s1⟩ := s.ex
        rw [e1]
        cases b with
        | false => exact ih (pre ++ [x]) acc τ1 (by simp [e]) (s1.2 (by decide))
        | true =>
          obtain ⟨p, τ2, e2, s2, s3⟩ := (s1.1 rfl).ex
          have i2 := ih (pre ++ [x]) (acc ++ [p]) τ2 (by simp [e]) s3
          simp only [e2, s2]
          cases hl : lcV tg ga fa pe (m.map enc) τ2 with
          | none => rw [hl] at i2; exact i2.elim
          | some q =>
            rw [hl] at i2
            obtain ⟨l, τ3⟩ := q
            simp only [Bool.false_eq_true, if_false, wl_some] at i2 ⊢
            simpa using i2
  have h := key L [] [] τ rfl h0
  cases hl : lcV tg ga fa pe (L.map enc) τ with
  | none => rw [hl] at h; exact h.elim
  | some q =>
    rw [hl] at h
    obtain ⟨l, τ1⟩ := q
    exact done _ _ (by simpa using h)
theorem WL.rng {tg : Tg} (Inv : Nat → List P → Tau → Prop) {n : Nat} {m : Int} (h0 : Inv 0 [] τ) (step : ∀ j acc τ, j < n → Inv j acc τ → WO (putP tg (.int (j : Int)) pe) fun pe1 => WE ga pe1 τ (fun b τ1 => iteP (b = true) (WE fa pe1 τ1 (fun p τ2 => andP (p.isOwn = false) (Inv (j + 1) (acc ++ [p]) τ2)) (fun _ _ => False)) (Inv (j + 1) acc τ1)) (fun _ _ => False)) (done : ∀ acc τ, Inv n acc τ → QL acc τ) (hm : m.toNat = n := by omega) : WL (lcV tg ga fa pe (rangeP 0 m.toNat) τ) QL := by
  have e : rangeP 0 m.toNat = (List.range n).map fun (j : Nat) => P.int (j : Int) := by
    unfold rangeP
    rw [hm]
    congr 1
    funext j
    rw [Int.zero_add]
  rw [e]
  refine WL.pre (fun pre acc τ => Inv pre.length acc τ) h0 (fun pre a post acc τ e h => ?_) (fun acc τ h => done acc τ (by simpa using h))
  have ha : a = pre.length := by
    have h1 : (List.range n)[pre.length]? = some a := by rw [e]; simp
    have h2 : pre.length < n := by
      have := congrArg List.length e
      simp at this
      omega
    rw [List.getElem?_range h2] at h1
    cases h1
    rfl
  subst ha
  have := step pre.length acc τ (by
    have := congrArg List.length e
    simp at this
    omega) h
  rw [List.length_append, List.length_singleton]
  exact this
/-- a comprehension whose parts change nothing -/
theorem WL.map {tg : Tg} (enc : α → P) (b : α → Bool) (y : α → P) {L : List α} (step : ∀ x ∈ L, WO (putP tg (enc x) pe) fun pe1 => WE ga pe1 τ (fun c τ1 => τ1 = τ ∧ c = b x ∧ (b x = true → WE fa pe1 τ (fun p τ2 => andP (p.isOwn = false) (p = y x ∧ τ2 = τ)) (fun _ _ => False))) (fun _ _ => False)) (done : QL ((L.filter b).map y) τ) : WL (lcV tg ga fa pe (L.map enc) τ) QL := by
  rw [lcV_map enc L b y fun x hx => ?_]
  · exact done
  · have s := step x hx
    cases hp : putP tg (enc x) pe with
    | none => rw [hp] at s; exact s.elim
    | some pe1 =>
      rw [hp] at s
      simp only [wo_some] at s
      unfold WE at s
      obtain ⟨c, τ1, e1, rfl, rfl, s1⟩ := s.ex
      refine ⟨pe1, rfl, e1, fun hb => ?_⟩
      obtain ⟨p, τ2, e2, s2, rfl, rfl⟩ := (s1 hb).ex
      exact ⟨e2, s2⟩
theorem WL.all {tg : Tg} (enc : α → P) (y : α → P) {L : List α} (step : ∀ x ∈ L, WO (putP tg (enc x) pe) fun pe1 => WE fa pe1 τ (fun p τ2 => andP (p.isOwn = false) (p = y x ∧ τ2 = τ)) (fun _ _ => False)) (done : QL (L.map y) τ) : WL (lcV tg vTrue fa pe (L.map enc) τ) QL :=
  WL.map enc (fun _ => true) y (fun x hx => by
    simp only [we_true]
    exact (step x hx).mono fun pe1 h => ⟨rfl, rfl, fun _ => h⟩) (by rw [List.filter_eq_self.mpr (fun _ _ => rfl)]; exact done)
/-! picks -/
theorem wo_atM {l : List α} {k : Nat} {f : α → P} {Q : P → Prop} (h : k < l.length) (q : ∀ a, l[k]? = some a → Q (f a)) : WO (atI (l.map f) (k : Int)) Q := by
  have e := List.getElem?_eq_getElem h
  rw [at_map (f := f) e]
  exact q _ e
end
end VL
namespace DL
open PySem PySem.Spec PyProof.Rows L2 RT RZ
/-! ### a statement that is never reached -/
end DL
namespace VL
open PySem PySem.Spec PyProof.Rows L2 RT RZ DL
def vNever : PE → Tau → AnsV := fun _ _ => none
@[simp ↓] theorem wp_never {pe : PE} {τ : Tau} {R : OutP → PE → Tau → Prop} : WP vNever pe τ R = False := rfl
end VL
namespace DL
open PySem PySem.Spec PyProof.Rows L2 RT RZ
/-! ### x in t, where things are compared in depth -/
end DL
namespace VL
open PySem PySem.Spec PyProof.Rows L2 RT RZ DL
end VL
namespace VL
open PySem PySem.Spec PyProof.Rows L2 RT RZ DL
/-! ### defs whose every return gives a new list -/
/-- a new list, or one that holds no lists -/
def flatF : AP P → AP P
  | some (.ok (.lst l), τ) => if P.flats l = true then some (.ok (.lst l), τ) else none
  | _ => none
def vCallFP (G : MirV) (ps : List P) (τ : Tau) : AP P := if ps.any P.isOwn = true then flatF (G (ps.map P.thaw) τ) else G ps τ
/-- a call of such a def: own lists may be read by it -/
def vCallF (G : MirV) (gs : PE → Tau → AP (List P)) : PE → Tau → AP P := fun pe τ => bindV (gs pe τ) fun ps τ1 => vCallFP G ps τ1
end VL
namespace VL
open PySem PySem.Spec PyProof.Rows L2 RT RZ DL
/-! ### stepping through calls of defs that give new lists -/
def onL : P → Prop → Prop
  | .lst l, R => andP (P.flats l = true) R
  | _, _ => False
@[simp] theorem onL_lst (l : List P) (R : Prop) : onL (.lst l) R = andP (P.flats l = true) R := rfl
section
variable {pe : PE} {τ : Tau} {gs : PE → Tau → AP (List P)} {Q : P → Tau → Prop} {E : XP → Tau → Prop}
theorem w_flatF {x : AP P} : W (flatF x) Q E = W x (fun p τ1 => onL p (Q p τ1)) := by
  cases x with
  | none => rfl
  | some y =>
    obtain ⟨r, τ1⟩ := y
    cases r with
    | ex e => rfl
    | ok p =>
      cases p with
      | lst l =>
        show W (if P.flats l = true then _ else none) Q E = andP _ _
        by_cases h : P.flats l = true <;> simp [h, W, andP]
      | _ => rfl
@[simp ↓] theorem w_callFP (G : MirV) (ps : List P) : W (vCallFP G ps τ) Q E = iteP (ps.any P.isOwn = true) (W (G (ps.map P.thaw) τ) (fun p τ1 => onL p (Q p τ1))) (W (G ps τ) Q E) := by
  unfold vCallFP
  rw [w_ite, w_flatF]
@[simp ↓] theorem we_callF (G : MirV) : WE (vCallF G gs) pe τ Q E = WE gs pe τ (fun ps τ1 => W (vCallFP G ps τ1) Q E) E := by
  show W (bindV _ _) _ _ = _
  exact w_bind
end
end VL
namespace DL
open PySem PySem.Spec PyProof.Rows L2 RT RZ
/-! ### [(k, d[k]) for k in d]: the pairs of a dict -/
end DL
namespace VL
open PySem PySem.Spec PyProof.Rows L2 RT RZ DL
/-! ### [(k, d[k]) for k in d] in values -/
def pairP (L : List P) : P → P
  | .tup [k, _] => .tup [k, ((keyP k).bind (lookP L)).getD .non]
  | e => e
def pairOk (L : List P) : P → Bool
  | .tup [k, _] => ((keyP k).bind (lookP L)).isSome
  | _ => false
def qPairsD : List P → Option P
  | [p] => match dctP p with
    | some l => if l.length ≤ sizeLine ∧ l.all (pairOk l) = true then some (.lst (l.map (pairP l))) else none
    | none => none
  | _ => none
def vHas (j : Nat) (g : PE → Tau → AP P) : PE → Tau → AP P := fun pe τ => if j < pe.length then g pe τ else none
section
variable {pe : PE} {τ : Tau} {Q : P → Tau → Prop} {E : XP → Tau → Prop}
@[simp ↓] theorem we_has (j : Nat) (g : PE → Tau → AP P) : WE (vHas j g) pe τ Q E = andP (j < pe.length) (WE g pe τ Q E) := by
  show W (if j < pe.length then g pe τ else none) Q E = _
  unfold andP
  by_cases h : j < pe.length <;> simp [h, W] <;> rfl
@[simp] theorem qPairsD_one (p : P) : qPairsD [p] = match dctP p with
    | some l => if l.length ≤ sizeLine ∧ l.all (pairOk l) = true then some (.lst (l.map (pairP l))) else none
    | none => none := rfl
end
end VL
namespace DL
open PySem PySem.Spec PyProof.Rows L2 RT RZ
section
variable {X : Cx} {pins : List (Addr × Obj)} {σ : L2.St}
/-- a zip just made of two tuples -/
structure ZipNew (h : Heap) (z TI TO i1 i2 l1 l2 : Addr) (xs ys : Array Value) : Prop where
  zip : IsZip h z TI TO .none
  out : PySem.IsPair h TO .none .none
  its : PySem.IsPair h TI (.ref i1) (.ref i2)
  it1 : h.IsTupleIter i1 l1 0
  it2 : h.IsTupleIter i2 l2 0
  tu1 : h.IsTuple l1 xs
  tu2 : h.IsTuple l2 ys
theorem ZipNew.lt {h : Heap} {z TI TO i1 i2 l1 l2 : Addr} {xs ys : Array Value} (x : ZipNew h z TI TO i1 i2 l1 l2 xs ys) : ∀ b ∈ [z, TI, TO, i1, i2, l1, l2], b < h.objs.size := fun b hb => by
  obtain ⟨h1, h2, h3, ⟨o1, h4, _⟩, ⟨o2, h5, _⟩, ⟨o3, h6, _⟩, ⟨o4, h7, _⟩⟩ := x
  simp only [List.mem_cons, List.not_mem_nil, or_false] at hb
  rcases hb with rfl | rfl | rfl | rfl | rfl | rfl | rfl
  all_goals first | exact Heap.lt_size h1 | exact Heap.lt_size h2 | exact Heap.lt_size h3 | exact Heap.lt_size h4 | exact Heap.lt_size h5 | exact Heap.lt_size h6 | exact Heap.lt_size h7
theorem ZipNew.push {h : Heap} {z TI TO i1 i2 l1 l2 : Addr} {xs ys : Array Value} (x : ZipNew h z TI TO i1 i2 l1 l2 xs ys) (o : Obj) : ZipNew (h.push o) z TI TO i1 i2 l1 l2 xs ys :=
  ⟨Heap.get?_push_of_some _ x.zip, Heap.get?_push_of_some _ x.out, Heap.get?_push_of_some _ x.its, x.it1.at fun o e => Heap.get?_push_of_some _ e, x.it2.at fun o e => Heap.get?_push_of_some _ e, x.tu1.at fun o e => Heap.get?_push_of_some _ e, x.tu2.at fun o e => Heap.get?_push_of_some _ e⟩
end
end DL
namespace DL
open PySem PySem.Spec PyProof.Rows L2 RT RZ
/-! ### tuple(zip(a, b)) of two tuples, as data -/
end DL
namespace VL
open PySem PySem.Spec PyProof.Rows L2 RT RZ DL
/-! ### tuple(zip(a, b)) in values -/
def pTZip (a b : P) : Option P := match a, b with
  | .tup xs, .tup ys => some (.tup (zipP xs ys))
  | _, _ => none
@[simp] theorem pTZip_tup (xs ys : List P) : pTZip (.tup xs) (.tup ys) = some (.tup (zipP xs ys)) := rfl
end VL
namespace VL
open PySem PySem.Spec PyProof.Rows L2 RT RZ DL
/-! ### defs that give back a dict of their own: the caller may write into it -/
def vRetFd (i : Nat) : PE → Tau → AnsV := fun pe τ => match pe[i]? with
  | some (some (.ownd l)) => some (.rt (.dct l), pe, τ)
  | _ => none
@[simp] theorem W_retFd {pe : PE} {τ : Tau} (i : Nat) : vRetFd i pe τ = match pe[i]? with
  | some (some (.ownd l)) => some (.rt (.dct l), pe, τ)
  | _ => none := rfl
def VOkFd (t s : Nat) (ns : List Int) (F : Mir) (G : MirV) : Prop := ∀ A S ds ps τ, Adm t A A S → Rds t S A ps ds → TpOk t s ns S τ → Sim1 t s ns (RdFd t S A) A S (F ds S) (G ps τ)
section
variable {t s : Nat} {ns : List Int} {f f2 : Ev → Sto → AnsS} {g g2 : PE → Tau → AnsV}
theorem VOkFd.v {F : Mir} {G : MirV} (h : VOkFd t s ns F G) : VOk t s ns F G := fun A S ds ps τ a q T => (h A S ds ps τ a q T).imp fun _ _ _ _ z => z.rd a
/-- what an own list given away for reading asks of the answer: its values hold no lists -/
def flatD : AP P → AP P
  | some (.ok (.dct l), τ) => if P.flats l = true then some (.ok (.dct l), τ) else none
  | _ => none
def vCallDP (G : MirV) (ps : List P) (τ : Tau) : AP P := if ps.any P.isOwn = true then flatD (G (ps.map P.thaw) τ) else G ps τ
def vCallDict (G : MirV) (gs : PE → Tau → AP (List P)) : PE → Tau → AP P := fun pe τ => bindV (gs pe τ) fun ps τ1 => vCallDP G ps τ1
end
/-! ### stepping -/
def onD : P → Prop → Prop
  | .dct l, R => andP (P.flats l = true) R
  | _, _ => False
@[simp] theorem onD_dct (l : List P) (R : Prop) : onD (.dct l) R = andP (P.flats l = true) R := rfl
section
variable {pe : PE} {τ : Tau} {gs : PE → Tau → AP (List P)} {Q : P → Tau → Prop} {E : XP → Tau → Prop}
theorem w_flatD {x : AP P} : W (flatD x) Q E = W x (fun p τ1 => onD p (Q p τ1)) := by
  cases x with
  | none => rfl
  | some y =>
    obtain ⟨r, τ1⟩ := y
    cases r with
    | ex e => rfl
    | ok p =>
      cases p with
      | dct l =>
        show W (if P.flats l = true then _ else none) Q E = andP _ _
        by_cases h : P.flats l = true <;> simp [h, W, andP]
      | _ => rfl
@[simp ↓] theorem w_callDP (G : MirV) (ps : List P) : W (vCallDP G ps τ) Q E = iteP (ps.any P.isOwn = true) (W (G (ps.map P.thaw) τ) (fun p τ1 => onD p (Q p τ1))) (W (G ps τ) Q E) := by
  unfold vCallDP
  rw [w_ite, w_flatD]
@[simp ↓] theorem we_callDict (G : MirV) : WE (vCallDict G gs) pe τ Q E = WE gs pe τ (fun ps τ1 => W (vCallDP G ps τ1) Q E) E := by
  show W (bindV _ _) _ _ = _
  exact w_bind
@[simp ↓] theorem wp_retFd (i : Nat) {R : OutP → PE → Tau → Prop} : WP (vRetFd i) pe τ R = WO (owndAt pe i) fun l => R (.rt (.dct l)) pe τ := by
  cases h : owndAt pe i with
  | none =>
    have h := owndAt_none h
    show WP (vRetFd i) pe τ R = False
    unfold WP vRetFd
    split
    · rfl
    · rename_i e
      split at e
      · rename_i l e2
        exact absurd e2 (h l)
      · cases e
  | some l =>
    have h := owndAt_some h
    rw [wo_some]
    unfold WP vRetFd
    rw [h]
end
end VL
namespace DL
open PySem PySem.Spec PyProof.Rows L2 RT RZ
/-! ### try with several clauses, named or not; the caught exception is laid in the abstract heap -/
abbrev exH (H : Hp) (a : Addr) (oe : Obj) : Hp := upd H a (.frz oe (.ext fun _ => True))
/-- what an except clause does: its class, the slot of its name, its suite -/
abbrev Clause := Value × Option Nat × (Addr → Obj → Value → Option Addr → TS)
def slotE (i : Option Nat) (σ : L2.St) (v : Option V) : L2.St := match i with
  | none => σ
  | some i => σ.set i v
def goneE (i : Option Nat) (D : Ends) : Ends := { nx := fun σ H => D.nx (slotE i σ none) H, rt := D.rt, bk := fun σ H => D.bk (slotE i σ none) H, ct := fun σ H => D.ct (slotE i σ none) H }
def wTry (K : PySem.W.Frag) (Wout : WX) (D : Ends) : List Clause → WX
  | [] => Wout
  | (c, i, ts) :: r => fun cls d σ H => ∃ b, PySem.W.exmOne K cls c = some b ∧ (b = true → ∀ a oe, H a = none → L2N.Zn cls d oe → (∃ vs, oe.data = .fields vs) → ts a oe cls d (goneE i D) (slotE i σ (some (.ref a))) (exH H a oe)) ∧ (b = false → wTry K Wout D r cls d σ H)
inductive HdsT (X : Cx) : List ExceptHandler → List Clause → Prop
  | nil : HdsT X [] []
  | named {x n : Str} {i : Nat} {c : Value} {ts : Addr → Obj → Value → Option Addr → TS} {b₀ : Stmt} {suite : List Stmt} {np pos' : Pos} {hds : List ExceptHandler} {l : List Clause} (hi : X.N[i]? = some n) (hl : X.env.kindOf n = some .local) (hc : Names X x c)
      (hs : ∀ (a : Addr) (oe : Obj) (cls : Value) (d : Option Addr) (pn : List (Addr × Obj)), PSs (X.suite a pn) (b₀ :: suite) (ts a oe cls d)) (r : HdsT X hds l) : HdsT X (.ExceptHandler (some (.Name x np)) (some n) (b₀ :: suite) pos' :: hds) ((c, some i, ts) :: l)
  | plain {x : Str} {c : Value} {ts : Addr → Obj → Value → Option Addr → TS} {b₀ : Stmt} {suite : List Stmt} {np pos' : Pos} {hds : List ExceptHandler} {l : List Clause} (hc : Names X x c)
      (hs : ∀ (a : Addr) (oe : Obj) (cls : Value) (d : Option Addr) (pn : List (Addr × Obj)), PSs (X.suite a pn) (b₀ :: suite) (ts a oe cls d)) (r : HdsT X hds l) : HdsT X (.ExceptHandler (some (.Name x np)) none (b₀ :: suite) pos' :: hds) ((c, none, ts) :: l)
section
variable {X : Cx} {pins : List (Addr × Obj)} {σ : L2.St} {H : Hp} {s : Shared}
theorem inSuite (I : Inv X pins σ H s) (a : Addr) : Inv (X.suite a (X.pn ++ pins)) [] σ H s := by
  obtain ⟨ok, q1, q2, q3, q4, q5, q6, q7, q8, q9, q10⟩ := I
  exact ⟨ok.suite _ _, q1, q2, q3, q4, q5, q6, q7, fun p hp => q8 p (by simpa using hp), q9, q10⟩
theorem offSuite {a : Addr} {l : List (Addr × Obj)} (I : Inv (X.suite a (X.pn ++ pins)) l σ H s) (ok : X.Ok) : Inv X pins σ H s := by
  obtain ⟨_, q1, q2, q3, q4, q5, q6, q7, q8, q9, q10⟩ := I
  exact ⟨ok, q1, q2, q3, q4, q5, q6, q7, fun p hp => q8 p (List.mem_append_left _ hp), q9, q10⟩
variable {sI s' : Shared} {B : Heap} {cls : Value} {d : Option Addr} {a : Addr}
/-- the caught exception, laid -/
theorem laidExc {h : Heap} {l : List Env} (J : Inv X pins σ H sI) (nb : ∀ b o, sI.heap.get? b = some o → b ∉ frs X.stack → B.get? b = some o) (up : sI.heap.UpToSlots h) (fl : HandSPX.FlyingZ B l a (L2N.Zn cls d) h) (na : H a = none) (os : s'.os = sI.os) (ag : AllBare s'.gens) :
    ∃ oe vs, L2N.Zn cls d oe ∧ oe.data = .fields vs ∧ Inv X pins σ H { s' with heap := h } ∧ Inv X pins σ (exH H a oe) { s' with heap := h } := by
  obtain ⟨oe, vs, he, hz, hd⟩ := fl.there
  refine ⟨oe, vs, hz, hd, J.landed nb fl.1 up os ag, ?_⟩
  obtain ⟨G, g1, g2⟩ := restrict h fun b => decide (b ≠ a)
  have at1 : ∀ b, b ≠ a → G.get? b = h.get? b := fun b q => g1 b (decide_eq_true q)
  have at0 : G.get? a = none := g2 a (by simp)
  have stG : B.StaysIn G := fun b o e => by
    have q : b ≠ a := fun z => by
      rw [z, fl.2.1] at e
      cases e
    rw [at1 b q]
    exact fl.1 b o e
  have upG : sI.heap.UpToSlots G := fun b o e nf => by
    obtain ⟨sl, q⟩ := up b o e nf
    have ne : b ≠ a := fun z => by
      rw [z, he] at q
      cases q
      exact nf vs hd
    exact ⟨sl, (at1 b ne).trans q⟩
  have JG : Inv X pins σ H { s' with heap := G } := J.landed (s' := { s' with heap := G }) nb stG upG os ag
  exact JG.laidN (h' := h) (t' := s'.toks) (fun b u e => by
    have q : b ≠ a := fun z => by
      rw [z] at e
      exact absurd (at0.symm.trans e) (by simp)
    exact (at1 b q).symm.trans e) at0 na ⟨he, trivial, ⟨oe, he⟩, fun _ _ _ _ => trivial⟩
end
section
variable {X : Cx} {body : List Stmt} {h₀ : ExceptHandler} {hds : List ExceptHandler} {l : List Clause} {pos : Pos} {tb : WX → TS} {Wout : WX}
/-- the end of a suite whose name goes -/
theorem suiteEnds {pins : List (Addr × Obj)} {D : Ends} {a : Addr} {n : Str} {i : Nat} {p' : Pos} {f : Flow} {t : Shared} (ok : X.Ok) (hN : X.N.Nodup) (hi : X.N[i]? = some n) (hl : X.env.kindOf n = some .local)
    (q : SP (X.suite a (X.pn ++ pins)) [] (goneE (some i) D) f t) : wpAny (model X.prog X.w) X.A (do bindName X.env n .none; unbindBehindTheSuite X.env n p') (fun _ t2 => SP X pins D f t2) X.xe t := by
  cases f with
  | next => obtain ⟨σ2, H2, J, w⟩ := q; exact gone_ok (offSuite J ok) hN hi hl fun t2 J2 => ⟨_, _, J2, w⟩
  | brk => obtain ⟨σ2, H2, J, w⟩ := q; exact gone_ok (offSuite J ok) hN hi hl fun t2 J2 => ⟨_, _, J2, w⟩
  | cont => obtain ⟨σ2, H2, J, w⟩ := q; exact gone_ok (offSuite J ok) hN hi hl fun t2 J2 => ⟨_, _, J2, w⟩
  | ret u => obtain ⟨v, σ2, H2, J, r, w⟩ := q; exact gone_ok (offSuite J ok) hN hi hl fun t2 J2 => ⟨_, _, _, J2, r, w⟩
theorem suiteEnds0 {pins : List (Addr × Obj)} {D : Ends} {a : Addr} {f : Flow} {t : Shared} (ok : X.Ok) (q : SP (X.suite a (X.pn ++ pins)) [] (goneE none D) f t) : SP X pins D f t := by
  cases f with
  | next => obtain ⟨σ2, H2, J, w⟩ := q; exact ⟨_, _, offSuite J ok, w⟩
  | brk => obtain ⟨σ2, H2, J, w⟩ := q; exact ⟨_, _, offSuite J ok, w⟩
  | cont => obtain ⟨σ2, H2, J, w⟩ := q; exact ⟨_, _, offSuite J ok, w⟩
  | ret u => obtain ⟨v, σ2, H2, J, r, w⟩ := q; exact ⟨_, _, _, offSuite J ok, r, w⟩
theorem ps_tryN (hs : X.stack = X.env :: X.outer) (hf : X.env.frame = some X.env.locals) (hN : X.N.Nodup) (tk : L2N.Takes X Wout)
    (hb : ∀ (W : WX) (pn : List (Addr × Obj)) (xe : Value → Shared → Prop), L2N.Takes (X.tr pn xe) W → PassesOwn (model X.prog X.w) X.A X.env xe → PSs (X.tr pn xe) body (tb W)) (hh : HdsT X (h₀ :: hds) l) :
    PS X (.Try body (h₀ :: hds) [] [] pos) (fun D σ H => tb (wTry X.K Wout D l) D σ H) := ⟨fun pins s σ H D I q => by
  have ok := I.ok
  have fr : X.A.frames = some (X.env :: X.outer) := hs ▸ ok.frames
  refine wpAny_Try_except (wpAny_mono ((hb (wTry X.K Wout D l) (X.pn ++ pins) (fun e t1 => wpAny (model X.prog X.w) X.A (noteFrame e X.env) (fun _ t2 => wpAny (model X.prog X.w) X.A (setFlight e none)
    (fun _ t3 => wpAny (model X.prog X.w) X.A (handleBy e X.env (h₀ :: hds)) (SP X pins D) X.xe t3) X.xe t2) X.xe t1) (fun u t1 x => ?_) PassesOwn.looking).run [] s σ H D (I.toTry _) q) (fun f t1 w => ?_) fun _ _ w => w)
  · obtain ⟨a, B, sI, pins2, σ1, H1, cls, d, rfl, J0, nb, up, sky, na, os, ag, w⟩ := x
    have J : Inv X pins σ1 H1 sI := J0.ofTry ok
    have sky : Sky B (X.env :: X.outer) a (L2N.Zn cls d) X.env.locals t1.heap := hs ▸ sky
    show wpAny _ X.A (noteFrame (.ref a) X.env) _ _ t1
    refine L2N.Sky.land L2N.Zn.steady fr hf sky fun h2 fl2 up2 => ?_
    obtain ⟨oe2, vs2, hz2, hd2, J2, -⟩ := laidExc (s' := t1) J nb (up.trans up2) fl2 na os ag
    have he2 : h2.get? a = some oe2 ∨ ∃ o, h2.get? a = some o ∧ o.cls = cls := by
      obtain ⟨o, _, e, z, _⟩ := fl2.there
      exact .inr ⟨o, e, z.1⟩
    have LT : PySem.W.Looks (model X.prog X.w) h2 (typeOf (.ref a)) cls := by
      obtain ⟨o, _, e, z, _⟩ := fl2.there
      exact fun A Q E t k w => wpAny_typeOf_ref (k _ _ e) (by rw [z.1]; exact w)
    have S2 := inSuite J2 a
    have asks : ∀ {x : Str} {c : Value} {np : Pos} {Q : Value → Shared → Prop} {E : Value → Shared → Prop}, Names X x c → Q c { t1 with heap := h2 } → wpAny (model X.prog X.w) (X.A.mark (some (.ref a))) (eval (.Name x np) X.env) Q E { t1 with heap := h2 } :=
      fun {x c np Q E} hc w => by
        obtain ⟨hg, hdb, hm | ⟨hm, hv, hnn⟩⟩ := hc
        · exact ld_glob (X := X.suite a (X.pn ++ pins)) S2 hg hm w hdb
        · exact ld_blt (X := X.suite a (X.pn ++ pins)) S2 hg hm hv w hnn hdb
    have run : ∀ {hd : List ExceptHandler} {cl : List Clause}, HdsT X hd cl → wTry X.K Wout D cl cls d σ1 H1 → wpAny (model X.prog X.w) X.A (handleBy (.ref a) X.env hd) (SP X pins D) X.xe { t1 with heap := h2 } := by
      intro hd cl hk
      induction hk with
      | nil =>
        intro w
        obtain ⟨_, _, _, oe, vs, T, oT, ts', he, _, hd, h1, _⟩ := id fl2
        refine wpAny_handleBy_nil ?_
        have out : wpAny (model X.prog X.w) X.A (setFlight (.ref a) X.env.frame) (fun _ t4 => wpAny (model X.prog X.w) X.A (throw (.ref a) : Sem Flow) (SP X pins D) X.xe t4) X.xe { t1 with heap := h2 } := by
          rw [hf]
          exact HandSPX.setFlight_upZ fl2 fun h4 hh4 up4 => wpAny_throw (tk _ _ ⟨a, B, sI, pins, σ1, H1, cls, d, rfl, J, nb, (up.trans up2).trans up4, .inr (.inr (hs ▸ hh4)), na, os, ag, w⟩)
        unfold PySem.passOn
        refine wpAny_bind (wpAny_field he hd h1 ?_)
        rw [if_neg (by simp)]
        first
          | exact wpAny_bind (wpAny_pure (wpAny_bind out))
          | exact wpAny_bind out
      | @named x n i c ts b₀ suite np pos' hd2 cl2 hi hln hc hsu r ih =>
        intro ⟨b, hb1, yes, no⟩
        have LM := PySem.W.exm_one (M := model X.prog X.w) J2.kIn LT hb1
        refine wpAny_handleBy_cons (codeAny_handlers_test (asks hc (LM.here ?_))) (fun z => by cases z)
        cases b with
        | false => exact ih (no rfl)
        | true =>
          refine codeAny_handlers_suite_as (HandSPX.lands_againZ fl2 fun h3 fl3 up3 => ?_)
          obtain ⟨oe3, vs3, hz3, hd3, -, J3⟩ := laidExc (s' := t1) J nb ((up.trans up2).trans up3) fl3 na os ag
          refine store_ok (X := X.suite a (X.pn ++ pins)) (v := .ref a) (inSuite J3 a) hN hi (.inl hln) rfl (fun t5 S5 => ?_) (.inr hln)
          exact wpAny_mono ((hsu a oe3 cls d (X.pn ++ pins)).run [] t5 _ _ _ S5 (yes rfl a oe3 na hz3 ⟨_, hd3⟩)) (fun f t6 w6 => suiteEnds ok hN hi hln w6) fun _ _ z => z.elim
      | @plain x c ts b₀ suite np pos' hd2 cl2 hc hsu r ih =>
        intro ⟨b, hb1, yes, no⟩
        have LM := PySem.W.exm_one (M := model X.prog X.w) J2.kIn LT hb1
        refine wpAny_handleBy_cons (codeAny_handlers_test (asks hc (LM.here ?_))) (fun z => by cases z)
        cases b with
        | false => exact ih (no rfl)
        | true =>
          refine codeAny_handlers_suite (HandSPX.lands_againZ fl2 fun h3 fl3 up3 => ?_)
          obtain ⟨oe3, vs3, hz3, hd3, -, J3⟩ := laidExc (s' := t1) J nb ((up.trans up2).trans up3) fl3 na os ag
          exact wpAny_mono ((hsu a oe3 cls d (X.pn ++ pins)).run [] _ _ _ _ (inSuite J3 a) (yes rfl a oe3 na hz3 ⟨_, hd3⟩)) (fun f t6 w6 => suiteEnds0 ok w6) fun _ _ z => z.elim
    exact run hh w
  · cases f with
    | next => obtain ⟨σ2, H2, J, w⟩ := w; exact wpAny_execs_nil ⟨_, _, J.ofTry ok, w⟩
    | brk => obtain ⟨σ2, H2, J, w⟩ := w; exact ⟨_, _, J.ofTry ok, w⟩
    | cont => obtain ⟨σ2, H2, J, w⟩ := w; exact ⟨_, _, J.ofTry ok, w⟩
    | ret u => obtain ⟨v, σ2, H2, J, r, w⟩ := w; exact ⟨_, _, _, J.ofTry ok, r, w⟩⟩
end
end DL
namespace DL
open PySem PySem.Spec PyProof.Rows L2 RT RZ
/-! ### try, as a computation -/
/-- the handled exception stands in the abstract heap, its context is None -/
def HotO (a : Addr) (H : Hp) : Prop := ∃ (oe : Obj) (φ : Heap → Prop) (vs : Array Value), H a = some (.frz oe (.ext φ)) ∧ oe.data = .fields vs ∧ vs[2]? = some .none
/-- a suite, read while the exception at a is handled -/
abbrev DSsh (X : Cx) (a : Addr) (st : List Stmt) (f : Ev → Sto → AnsS) : Prop := PSs X st (fun E σ H => HotO a H ∧ tS X.K X.mg E0x f E σ H)
theorem DSsh.of {X : Cx} {a : Addr} {st : List Stmt} {f : Ev → Sto → AnsS} (h : DSs X E0x st f) : DSsh X a st f := pss_weak h fun _ _ _ q => q.2
structure HD where
  tbl : List (Str × Bool)
  slot : Option Nat
  run : Ev → Sto → AnsS
def putE (i : Option Nat) (env : Ev) (d : Option D) : Ev := match i with
  | none => env
  | some i => env.set i d
def handD : List HD → Exn → Ev → Sto → AnsS
  | [], x, env, S => some (.ex x, env, S)
  | h :: r, x, env, S => match h.tbl.lookup x.cls with
    | some true => (match h.run (putE h.slot env (some (.ref S.length))) (S ++ [.exn x]) with
      | some (.ex _, _, _) => none
      | some (o, env2, S2) => some (o, putE h.slot env2 none, S2)
      | none => none)
    | some false => handD r x env S
    | none => none
def sTry (fb : Ev → Sto → AnsS) (hs : List HD) : Ev → Sto → AnsS := fun env S => match fb env S with
  | some (.ex x, env1, S1) => handD hs x env1 S1
  | y => y
section
variable {K : PySem.W.Frag} {mg : Str → Option Value} {io : List Addr} {S : Sto} {H : Hp} {env : Ev} {σ : L2.St}
theorem RE.putN (h : RE K io H env σ) (i : Option Nat) : RE K io H (putE i env none) (slotE i σ none) := by
  cases i with
  | none => exact h
  | some i =>
    refine ⟨by simp [putE, slotE, h.len], fun j d q => ?_⟩
    simp only [putE] at q
    by_cases hj : i = j
    · subst hj
      by_cases hi : i < env.length
      · rw [List.getElem?_set_self hi] at q; cases q
      · rw [List.getElem?_eq_none (by simpa using hi)] at q; cases q
    · rw [List.getElem?_set_ne hj] at q
      simp only [slotE]
      rw [List.getElem?_set_ne hj]
      exact h.get j d q
theorem RE.putS (h : RE K io H env σ) (i : Option Nat) {d : D} {v : V} (r : RV K io H d v) : RE K io H (putE i env (some d)) (slotE i σ (some v)) := by
  cases i with
  | none => exact h
  | some i => exact h.set i r
/-- the caught exception stands in the store -/
theorem RS.exnNew {x : Exn} {c : Value} {dd : Option Addr} {a : Addr} {oe : Obj} (rs : RS K io S H) (rx : RX K mg io H x c dd) (na : H a = none) (hz : L2N.Zn c dd oe) (hd : ∃ vs, oe.data = .fields vs) : RS K (io ++ [a]) (S ++ [.exn x]) (exH H a oe) := by
  obtain ⟨vs, hd⟩ := hd
  refine rs.objNew na ⟨oe, _, c, vs, upd_same, hz.1, hd, rx.1.2, ?_⟩
  have q := rx.2
  cases e : x.args with
  | none =>
    rw [e] at q
    simp only at q ⊢
    rw [hz.2.1, q]
  | some fs =>
    rw [e] at q
    obtain ⟨d, ws, e1, e2, e3, e4⟩ := q
    refine ⟨d, ws, by rw [hz.2.1, e1], ?_, e3, RVs.mono (Ext.new na) _ _ e4⟩
    rw [upd_ne (ne_of_none e2 na)]
    exact e2
end
inductive HdsD (X : Cx) : List ExceptHandler → List HD → Prop
  | nil : HdsD X [] []
  | named {x n : Str} {i : Nat} {c : Value} {b₀ : Stmt} {suite : List Stmt} {np pos' : Pos} {hds : List ExceptHandler} {l : List HD} {tbl : List (Str × Bool)} {fr : Ev → Sto → AnsS} (hi : X.N[i]? = some n) (hl : X.env.kindOf n = some .local) (hc : Names X x c)
      (ht : ∀ cn b, tbl.lookup cn = some b → ∀ cv, PySem.W.nsIn X.K mainGlobals cn = some (some cv) → PySem.W.exmOne X.K cv c = some b)
      (hs : ∀ (a : Addr) (pn : List (Addr × Obj)), DSsh (X.suite a pn) a (b₀ :: suite) fr) (r : HdsD X hds l) : HdsD X (.ExceptHandler (some (.Name x np)) (some n) (b₀ :: suite) pos' :: hds) (⟨tbl, some i, fr⟩ :: l)
  | plain {x : Str} {c : Value} {b₀ : Stmt} {suite : List Stmt} {np pos' : Pos} {hds : List ExceptHandler} {l : List HD} {tbl : List (Str × Bool)} {fr : Ev → Sto → AnsS} (hc : Names X x c)
      (ht : ∀ cn b, tbl.lookup cn = some b → ∀ cv, PySem.W.nsIn X.K mainGlobals cn = some (some cv) → PySem.W.exmOne X.K cv c = some b)
      (hs : ∀ (a : Addr) (pn : List (Addr × Obj)), DSsh (X.suite a pn) a (b₀ :: suite) fr) (r : HdsD X hds l) : HdsD X (.ExceptHandler (some (.Name x np)) none (b₀ :: suite) pos' :: hds) (⟨tbl, none, fr⟩ :: l)
section
variable {X : Cx} {W : WX} {body : List Stmt} {h₀ : ExceptHandler} {hds : List ExceptHandler} {hs : List HD} {pos : Pos} {fb : Ev → Sto → AnsS}
/-- the clauses of the rule -/
theorem HdsD.cl {hd : List ExceptHandler} {l : List HD} (h : HdsD X hd l) : ∃ cl : List Clause, HdsT X hd cl ∧ ∀ (E : Ends) (x : Exn) (env : Ev) (S : Sto) (o : Out) (env' : Ev) (S' : Sto) (io : List Addr) (H : Hp) (σ : L2.St) (c : Value) (dd : Option Addr),
    RS X.K io S H → RE X.K io H env σ → handD l x env S = some (o, env', S') → EndS X.K X.mg W io H o env' S' E → RX X.K X.mg io H x c dd → wTry X.K W E cl c dd σ H := by
  have suite : ∀ {tbl : List (Str × Bool)} {fr : Ev → Sto → AnsS} {i : Option Nat} {E : Ends} {x : Exn} {env : Ev} {S : Sto} {o : Out} {env' : Ev} {S' : Sto} {io : List Addr} {H : Hp} {σ : L2.St} {c : Value} {dd : Option Addr},
      RS X.K io S H → RE X.K io H env σ → (match fr (putE i env (some (.ref S.length))) (S ++ [.exn x]) with | some (.ex _, _, _) => none | some (o, env2, S2) => some (o, putE i env2 none, S2) | none => none) = some (o, env', S') → EndS X.K X.mg W io H o env' S' E → RX X.K X.mg io H x c dd →
      ∀ a oe, H a = none → L2N.Zn c dd oe → (∃ vs, oe.data = .fields vs) → HotO a (exH H a oe) ∧ tS X.K X.mg E0x fr (goneE i E) (slotE i σ (some (.ref a))) (exH H a oe) := by
    intro tbl fr i E x env S o env' S' io H σ c dd rs re hf hE rx a oe na hz hd
    have rs2 := rs.exnNew rx na hz hd
    have ex2 : Ext X.K io H (io ++ [a]) (exH H a oe) := Ext.new na
    have rv : RV X.K (io ++ [a]) (exH H a oe) (.ref S.length) (.ref a) := by
      unfold RV
      exact ⟨a, by rw [← rs.len]; simp, rfl⟩
    have re2 := (re.mono ex2).putS i rv
    cases hr : fr (putE i env (some (.ref S.length))) (S ++ [.exn x]) with
    | none => rw [hr] at hf; cases hf
    | some q =>
      obtain ⟨o2, env2, S2⟩ := q
      rw [hr] at hf
      have hE2 := hE.mono ex2
      obtain ⟨vs, hd⟩ := hd
      refine ⟨⟨oe, _, vs, upd_same, hd, hz.2.2 vs hd⟩, _, _, _, o2, env2, S2, rs2, re2, hr, ?_⟩
      cases o2 with
      | ex _ => cases hf
      | nx => cases hf; exact fun io3 H3 σ3 e3 rs3 re3 => hE2 io3 H3 _ e3 rs3 (re3.putN i)
      | bk => cases hf; exact fun io3 H3 σ3 e3 rs3 re3 => hE2 io3 H3 _ e3 rs3 (re3.putN i)
      | ct => cases hf; exact fun io3 H3 σ3 e3 rs3 re3 => hE2 io3 H3 _ e3 rs3 (re3.putN i)
      | rt d => cases hf; exact fun io3 H3 v e3 rs3 rv3 => hE2 io3 H3 v e3 rs3 rv3
  have step : ∀ {tbl : List (Str × Bool)} {fr : Ev → Sto → AnsS} {i : Option Nat} {c0 : Value} {l : List HD} {cl : List Clause} (ht : ∀ cn b, tbl.lookup cn = some b → ∀ cv, PySem.W.nsIn X.K mainGlobals cn = some (some cv) → PySem.W.exmOne X.K cv c0 = some b)
      (ih : ∀ (E : Ends) (x : Exn) (env : Ev) (S : Sto) (o : Out) (env' : Ev) (S' : Sto) (io : List Addr) (H : Hp) (σ : L2.St) (c : Value) (dd : Option Addr), RS X.K io S H → RE X.K io H env σ → handD l x env S = some (o, env', S') → EndS X.K X.mg W io H o env' S' E → RX X.K X.mg io H x c dd → wTry X.K W E cl c dd σ H)
      (E : Ends) (x : Exn) (env : Ev) (S : Sto) (o : Out) (env' : Ev) (S' : Sto) (io : List Addr) (H : Hp) (σ : L2.St) (c : Value) (dd : Option Addr), RS X.K io S H → RE X.K io H env σ → handD (⟨tbl, i, fr⟩ :: l) x env S = some (o, env', S') → EndS X.K X.mg W io H o env' S' E → RX X.K X.mg io H x c dd →
      wTry X.K W E ((c0, i, fun a _ _ _ E σ H => HotO a H ∧ tS X.K X.mg E0x fr E σ H) :: cl) c dd σ H := by
    intro tbl fr i c0 l cl ht ih E x env S o env' S' io H σ c dd rs re hf hE rx
    simp only [handD] at hf
    cases hl : tbl.lookup x.cls with
    | none => rw [hl] at hf; cases hf
    | some b =>
      rw [hl] at hf
      refine ⟨b, ht _ _ hl c rx.1.2, fun hb a oe na hz hd => ?_, fun hb => ?_⟩
      · subst hb
        exact suite (tbl := tbl) rs re hf hE rx a oe na hz hd
      · subst hb
        exact ih E x env S o env' S' io H σ c dd rs re hf hE rx
  induction h with
  | nil => exact ⟨[], .nil, fun E x env S o env' S' io H σ c dd rs re hf hE rx => by
      cases hf
      exact hE io H σ c dd Ext.refl rs re rx⟩
  | named hi hl hc ht hs r ih =>
    obtain ⟨cl, h1, h2⟩ := ih
    exact ⟨_, .named hi hl hc (fun a oe cls d pn => hs a pn) h1, step ht h2⟩
  | plain hc ht hs r ih =>
    obtain ⟨cl, h1, h2⟩ := ih
    exact ⟨_, .plain hc (fun a oe cls d pn => hs a pn) h1, step ht h2⟩
theorem ds_try (tk : L2N.Takes X W) (hst : X.stack = X.env :: X.outer) (hfr : X.env.frame = some X.env.locals) (hN : X.N.Nodup) (hb : ∀ (W' : WX) (pn : List (Addr × Obj)) (xe : Value → Shared → Prop), L2N.Takes (X.tr pn xe) W' → DSs (X.tr pn xe) W' body fb) (hh : HdsD X (h₀ :: hds) hs) :
    DS X W (.Try body (h₀ :: hds) [] [] pos) (sTry fb hs) := by
  obtain ⟨cl, h1, h2⟩ := hh.cl (W := W)
  refine ps_weak (ps_tryN (tb := fun W' => tS X.K X.mg W' fb) hst hfr hN tk (fun W' pn xe t _ => hb W' pn xe t) h1) fun E σ H ⟨io, S, env, o, env', S', rs, re, hf, hE⟩ => ?_
  unfold sTry at hf
  cases hx : fb env S with
  | none => rw [hx] at hf; cases hf
  | some q =>
    obtain ⟨o1, env1, S1⟩ := q
    rw [hx] at hf
    refine ⟨io, S, env, o1, env1, S1, rs, re, hx, ?_⟩
    cases o1 with
    | nx => cases hf; exact hE
    | bk => cases hf; exact hE
    | ct => cases hf; exact hE
    | rt d => cases hf; exact hE
    | ex x => exact fun io1 H1 σ1 c dd e1 rs1 re1 rx => h2 E x env1 S1 o env' S' io1 H1 σ1 c dd rs1 re1 hf (hE.mono e1) rx
end
/-! ### e.f, isinstance(e, C) -/
def exnOf (d : D) (S : Sto) : Option Exn := match d with
  | .ref k => match S[k]? with
    | some (.exn x) => some x
    | _ => none
  | _ => none
def dXf (cs : List Str) (n : Str) (fe : Ev → Sto → Ans D) : Ev → Sto → Ans D := fun env S => bindR (fe env S) fun a S1 => match exnOf a S1 with
  | some x => if x.cls ∈ cs then (match x.args with
    | some fs => (match fs.lookup n with
      | some d => some (.ok d, S1)
      | none => none)
    | none => none) else none
  | none => none
def dXi (tbl : List (Str × Bool)) (fe : Ev → Sto → Ans D) : Ev → Sto → Ans D := fun env S => bindR (fe env S) fun a S1 => match exnOf a S1 with
  | some x => (match tbl.lookup x.cls with
    | some b => some (.ok (.bl b), S1)
    | none => none)
  | none => none
theorem lookRV {K : PySem.W.Frag} {io : List Addr} {H : Hp} {n : Str} {d : D} : ∀ {fs : List (Str × D)} {ws : List (Str × V)}, ws.map (·.1) = fs.map (·.1) → RVs K io H (fs.map (·.2)) (ws.map (·.2)) → fs.lookup n = some d → ∃ v, ws.lookup n = some v ∧ RV K io H d v
  | [], _, _, _, h => by cases h
  | f :: fs, [], h1, _, _ => by cases h1
  | f :: fs, w :: ws, h1, h2, h3 => by
    obtain ⟨f1, f2⟩ := f
    obtain ⟨w1, w2⟩ := w
    simp only [List.map_cons, List.cons.injEq] at h1
    simp only [List.map_cons] at h2
    unfold RVs at h2
    obtain ⟨v, r, e, r1, r2⟩ := h2
    cases e
    obtain ⟨rfl, h1⟩ := h1
    by_cases hn : n == w1
    · simp only [List.lookup, hn] at h3 ⊢
      cases h3
      exact ⟨_, rfl, r1⟩
    · simp only [List.lookup, Bool.eq_false_iff.mpr hn] at h3 ⊢
      exact lookRV h1 r2 h3
theorem exnRO {K : PySem.W.Frag} {io : List Addr} {S : Sto} {H : Hp} {d : D} {v : V} {x : Exn} (rs : RS K io S H) (r : RV K io H d v) (h : exnOf d S = some x) : ∃ a, v = .ref a ∧ RXO K (RVs K io H) H x a := by
  unfold exnOf at h
  split at h
  · split at h
    · rename_i k y hk
      cases h
      unfold RV at r
      obtain ⟨a, e1, rfl⟩ := r
      exact ⟨a, rfl, rs.obj _ _ _ hk e1⟩
    · cases h
  · cases h
/-- the reading of e.n -/
def tXg (K : PySem.W.Frag) (n : Str) (te : TE) : TE := fun σ H Q => te σ H fun x H1 => ∃ (a : Addr) (oe : Obj) (φ : Heap → Prop) (C dd : Addr) (ws : List (Str × V)) (v : V) (vs : Array Value), x = .ref a ∧ H1 a = some (.frz oe (.ext φ)) ∧ oe.cls = .ref C ∧ oe.data = .fields vs ∧ XfC K C ∧ PySem.W.findIn K (.ref C) n = some none ∧
  oe.dict = some dd ∧ H1 dd = some (.xd ws) ∧ ws.lookup n = some v ∧ Q v H1
/-- what isinstance asks of the class -/
structure IsC (K : PySem.W.Frag) (C : Addr) : Prop where
  cl : (PySem.W.clsIn K C).isSome = true
  ga : PySem.W.findIn K (.ref C) "__getattribute__" = some (some (.builtin "BaseException.__getattribute__"))
  gt : PySem.W.findIn K (.ref C) "__getattr__" = some none
  sub : PySem.W.subIn K (.ref C) (.type "BaseException") = some true
  cc : PySem.W.findIn K (.ref C) "__class__" = some (some (.builtin "object.__class__"))
  sp : PySem.W.specialIn K (.builtin "object.__class__") "__get__" = some (some (.builtin "getset_descriptor.__get__"))
  tk : PySem.W.takesIn K (.builtin "object.__class__") = some true
  ob : PySem.W.mroIn K C (.type "object") = some true
def rXi (K : PySem.W.Frag) (cv : Value) : List V → Hp → VK → Prop := fun xs H Q => ∃ (a : Addr) (oe : Obj) (φ : Heap → Prop) (C : Addr) (vs : Array Value) (c : V) (b : Bool), xs = [.ref a, c] ∧ H a = some (.frz oe (.ext φ)) ∧ oe.cls = .ref C ∧ oe.data = .fields vs ∧ (oe.dict = none ∨ ∃ dd ws, oe.dict = some dd ∧ H dd = some (.xd ws)) ∧ IsC K C ∧
  (∀ u, RelV c u → u = cv) ∧ PySem.W.kitOne K (.ref C) cv = some b ∧ Q (.bl b) H
section
variable {X : Cx} {W : WX} {e : Expr} {fe : Ev → Sto → Ans D} {pos : Pos}
/-- the raw object -/
theorem exnAt {pins : List (Addr × Obj)} {σ : L2.St} {H : Hp} {s : Shared} {a C : Addr} {oe : Obj} {φ : Heap → Prop} {vs : Array Value} (I : Inv X pins σ H s) (h : H a = some (.frz oe (.ext φ))) (hc : oe.cls = .ref C) (hd : oe.data = .fields vs) (hz : oe.dict = none ∨ ∃ dd ws, oe.dict = some dd ∧ H dd = some (.xd ws)) :
    ∃ od, PySem.W.InstAt s.heap a oe C od ∧ ∀ dd ws, oe.dict = some dd → H dd = some (.xd ws) → ∃ (o : Obj) (mA : Str → Option Value), od = some o ∧ (∀ n : Str, PySem.W.lookIn n o = some (mA n)) ∧ ∀ f : Str, RelO (ws.lookup f) (mA f) := by
  have he : s.heap.get? a = some oe := (I.hok a _ h).1
  have hn : PySem.W.notCls oe = true := by unfold PySem.W.notCls; rw [hd] <;> rfl
  rcases hz with hz | ⟨dd, ws, hz, hx⟩
  · exact ⟨none, ⟨he, hc, hn, by rw [hz]; trivial⟩, fun dd ws q => by rw [hz] at q; cases q⟩
  · have ho : ObjOk X.prog X.w H s.heap dd (.xd ws) := I.hok dd _ hx
    obtain ⟨mA, hns, hr⟩ := ho
    obtain ⟨od, h1, h2⟩ := lookIn_ns hns
    refine ⟨some od, ⟨he, hc, hn, by rw [hz]; exact h1⟩, fun dd2 ws2 q1 q2 => ?_⟩
    rw [hz] at q1
    cases q1
    rw [hx] at q2
    cases q2
    exact ⟨od, mA, rfl, fun n => h2 n, hr⟩
theorem pe_xg {te : TE} {n : Str} (he : PE X e te) (hb : attributeBase e n X.env (eval e X.env) = eval e X.env := by rfl) : PE X (.Attribute e n pos) (tXg X.K n te) := ⟨fun pins s σ H Q I h => by
  refine attr_of hb (thn (he.run pins s σ H _ I h) fun u t w => ?_)
  obtain ⟨x, H1, J, rx, a, oe, φ, C, dd, ws, v, vs, rfl, h1, h2, h3, T, hno, h4, h5, h6, w⟩ := w
  obtain rfl : u = Value.ref a := rx
  obtain ⟨od, IA, g⟩ := exnAt J h1 h2 h3 (.inr ⟨dd, ws, h4, h5⟩)
  obtain ⟨o, mA, rfl, g1, g2⟩ := g dd ws h4 h5
  obtain ⟨u, hu, ru⟩ := RelO.some_of (v := v) (o := mA n) (by rw [← h6]; exact g2 n)
  exact HandSPX.exc_get J.kIn IA T.ga T.gg T.exC (PySem.W.findObj_own T.hdC hno rfl (by rw [g1 n, hu])) (handed_of ru) ⟨v, H1, J.tok _, ru, w⟩⟩
theorem d_xf {cs : List Str} {n : Str} (hT : ∀ cn ∈ cs, ∃ C, PySem.W.nsIn X.K mainGlobals cn = some (some (.ref C)) ∧ XfC X.K C ∧ PySem.W.findIn X.K (.ref C) n = some none) (he : DE X W e fe) (hb : attributeBase e n X.env (eval e X.env) = eval e X.env := by rfl) : DE X W (.Attribute e n pos) (dXf cs n fe) :=
  pe_weak (pe_xg he hb) fun σ H Q ⟨io, S, env, r, S', rs, re, hf, hE⟩ => tG_bind rs re hf hE fun d S1 io1 H1 v e1 rs1 re1 rv1 h1 hE1 => by
    cases hx : exnOf d S1 with
    | none => rw [hx] at h1; cases h1
    | some x =>
      rw [hx] at h1
      simp only at h1
      split at h1
      · rename_i hcs
        obtain ⟨a, rfl, oe, φ, c, vs, g1, g2, g3, g4, g5⟩ := exnRO rs1 rv1 hx
        obtain ⟨C, t1, t2, t3⟩ := hT _ hcs
        rw [t1] at g4
        cases g4
        cases ha : x.args with
        | none => rw [ha] at h1; cases h1
        | some fs =>
          rw [ha] at h1 g5
          obtain ⟨dd, ws, k1, k2, k3, k4⟩ := g5
          simp only at h1
          cases hl : fs.lookup n with
          | none => rw [hl] at h1; cases h1
          | some y =>
            rw [hl] at h1
            cases h1
            obtain ⟨v, l1, l2⟩ := lookRV k3 k4 hl
            exact ⟨a, oe, φ, C, dd, ws, v, vs, rfl, g1, g2, g3, t2, t3, k1, k2, l1, hE1.now rs1 l2⟩
      · cases h1
theorem call_xi {cv : Value} : CallR X (.builtin "isinstance") (rXi X.K cv) := by
  intro pins s σ H xs us Q I r h
  obtain ⟨a, oe, φ, C, vs, c, b, rfl, h1, h2, h3, h4, T, hcv, e, q⟩ := h
  cases r with
  | cons rx rr =>
    cases rr with
    | cons rt rr =>
      cases rr
      cases rx
      have ec := hcv _ rt
      subst ec
      obtain ⟨od, IA, -⟩ := exnAt I h1 h2 h3 h4
      exact PySem.W.kia_one (PySem.W.kitx_exc T.cl T.ga T.gt T.sub T.cc T.sp T.tk T.ob) I.kIn IA e (fun z => nomatch z) fun tk => ⟨.bl b, H, I.kept (t' := tk) fun _ _ z => z, rfl, q⟩
/-- a name's value -/
def tV0 (v : V) : TE := fun _ H Q => Q v H
theorem pe_globC {x : Str} {p : Pos} {c : Addr} (hg : Gl X x) (hm : X.mg x = some (.ref c)) (hdb : (x == ("__debug__" : Str)) = false := by decide) : PE X (.Name x p) (tV0 (.ref c)) := ⟨fun pins s σ H Q I h => ld_glob I hg hm ⟨.ref c, H, I, rfl, h⟩ hdb⟩
theorem d_xi {cv : Value} {c : V} {tbl : List (Str × Bool)} {p : Pos} {e2 : Expr} (hg : Gl X "isinstance") (hm : X.mg "isinstance" = none) (h2 : PE X e2 (tV0 c)) (hcv : ∀ u, RelV c u → u = cv)
    (hT : ∀ cn b, tbl.lookup cn = some b → ∃ C, PySem.W.nsIn X.K mainGlobals cn = some (some (.ref C)) ∧ IsC X.K C ∧ PySem.W.kitOne X.K (.ref C) cv = some b) (he : DE X W e fe)
    (hs : starEach [e, e2] X.env = (false, eval e X.env) :: starEach [e2] X.env := by rfl) (hs2 : starEach [e2] X.env = (false, eval e2 X.env) :: starEach [] X.env := by rfl) (hpl : (backTo pos (starEach [e2] X.env)).any (·.1) = false := by rfl) :
    DE X W (.Call (.Name "isinstance" p) [e, e2] [] pos) (dXi tbl fe) :=
  pe_weak (pe_callB (call_xi (cv := cv)) hg hm (by decide +kernel) (pa_cons he (pa_cons h2 pa_nil hs2) hs) (by decide) (by decide) hs hpl) fun σ H Q ⟨io, S, env, r, S', rs, re, hf, hE⟩ => tG_bind rs re hf hE fun d S1 io1 H1 v e1 rs1 re1 rv1 h1 hE1 => by
    cases hx : exnOf d S1 with
    | none => rw [hx] at h1; cases h1
    | some x =>
      rw [hx] at h1
      simp only at h1
      cases hl : tbl.lookup x.cls with
      | none => rw [hl] at h1; cases h1
      | some b =>
        rw [hl] at h1
        cases h1
        obtain ⟨a, rfl, oe, φ, cc, vs, g1, g2, g3, g4, g5⟩ := exnRO rs1 rv1 hx
        obtain ⟨C, t1, t2, t3⟩ := hT _ _ hl
        rw [t1] at g4
        cases g4
        have g6 : oe.dict = none ∨ ∃ dd ws, oe.dict = some dd ∧ H1 dd = some (.xd ws) := by
          cases ha : x.args with
          | none => rw [ha] at g5; exact .inl g5
          | some fs => rw [ha] at g5; obtain ⟨dd, ws, k1, k2, _⟩ := g5; exact .inr ⟨dd, ws, k1, k2⟩
        exact ⟨a, oe, φ, C, vs, c, b, rfl, g1, g2, g3, g6, t2, hcv, t3, hE1.now rs1 (by simp [RV])⟩
end
end DL
namespace DL
open PySem PySem.Spec PyProof.Rows L2 RT RZ
open PySem.W PySem.Calls
/-! ### an exception class of the text: class C(B): def __init__(self, f, ..): super().__init__('m'); self.f = f; .. -/
def stSup (m : Str) (j : Nat) (q1 q2 q3 q4 q5 q6 : Pos) : Stmt := .Expr (.Call (.Attribute (.Call (.Name "super" q1) [] [] q2) "__init__" q3) [.Constant (.str m) j q4] [] q5) q6
def supE (m : Str) (j : Nat) (q1 q2 q3 q4 q5 : Pos) : Expr := .Call (.Attribute (.Call (.Name "super" q1) [] [] q2) "__init__" q3) [.Constant (.str m) j q4] [] q5
/-- how the call goes, in these places -/
def SupE (m : Str) (j : Nat) (q1 q2 q3 q4 q5 : Pos) (env : Env) : Prop := ∃ pl : Sem Bool, eval (supE m j q1 q2 q3 q4 q5) env = (do
  let ov ← attributeBase (.Call (.Name "super" q1) [] [] q2) "__init__" env (eval (.Call (.Name "super" q1) [] [] q2) env)
  standAt q3.atName
  let (f, first) ← holding [ov] (getMethod ov "__init__" pl)
  callWith q5 f first (backTo q5 (starEach [.Constant (.str m) j q4] env)) [])
def stFld (f : Str) (r1 r2 r3 r4 : Pos) : Stmt := .Assign [.Attribute (.Name "self" r1) f r2] (.Name f r3) r4
/-- what the written part says of the class at C and of its __init__ at fI -/
structure OwnC (K : Frag) (C fI : Addr) : Prop where
  cls : ∃ nm q N bs bm sn sub ab col dd k0 k1 k2 k3 k5, K.lookup C = some (excClassObj nm q C N bs bm true sn sub ab col dd k0 k1 k2 k3 k5 "ValueError.__new__") ∧ PySem.HandSPX.refsVE bm = true
  sa : findIn K (.ref C) "__setattr__" = some (some (.builtin "object.__setattr__"))
  iC : findIn K (.ref C) "__init__" = some (some (.ref fI))
  tI : typeIn K (.ref fI) = some (.type "function")
  sup : ks_superIn K C C "__init__" = some (some (.builtin "ValueError.__init__"))
  subV : subIn K (.ref C) (.type "ValueError") = some true
  mroC : mroIn K C (.ref C) = some true
  opq : nsIn K cStatics "thirdparty.any" = some none
  exC : subIn K (.ref C) (.type "BaseException") = some true
  tyC : typeIn K (.ref C) = some (.type "type")
  kC : keepIn K (.ref C) = true
/-- .. of the function's object: st is its text -/
structure InitC (P : Program) (K : Frag) (C fI : Addr) (st : Stmt) (qual : Str) : Prop where
  ex : ∃ (oc doc pm ct cl ccl : Value) (od an cld cdd : Option Addr) (osl csl ccs : Array (Option Value)) (cda cc : Addr) (vs : Array Value) (file : Str) (tf : Tok),
    K.lookup fI = some ⟨oc, od, .func (ksFn "__init__" qual (defArgs st) (defBody st) (defScope st) .none .none doc pm an (.ref cda) ct cc), osl⟩ ∧ codeIn K (.ref cda) qual = true ∧
    K.lookup cc = some ⟨cl, cld, .cell (some (.ref C)), csl⟩ ∧ K.lookup cda = some ⟨ccl, cdd, .fields vs, ccs⟩ ∧ vs[2]? = some (.str file tf) ∧ ((P.main.file : Str) == file) = true
  top : (P.main.scope.names.lookup ("super" : Str)).isSome = false
  hS : (defScope st).names.lookup ("super" : Str) = some .globalImplicit ∧ (defScope st).names.lookup ("__class__" : Str) = some .free ∧ (defScope st).names.lookup ("self" : Str) = some .local ∧ (defScope st).kind = .function ∧ (defScope st).isCoroutine = false ∧ (defScope st).isGenerator = false ∧ (∀ x ∈ (defScope st).names, x.2 ≠ .cell)
  hd : ∃ ar, ((defArgs st).posonlyargs ++ (defArgs st).args).head? = some ar ∧ ar.arg = "self"
theorem clsIn_of {K : Frag} {C : Addr} {nm q : Str} {N : Addr} {bs bm : List Value} {sn : List Str} {sub : List Value} {ab : Bool} {col : Option Bool} {dd : Option Addr} {k0 k1 k2 k3 k5 : Option Value} {nw : String} (h : K.lookup C = some (excClassObj nm q C N bs bm true sn sub ab col dd k0 k1 k2 k3 k5 nw)) :
    clsIn K C = some { name := nm, bases := bs, mro := .ref C :: bm, ns := N, qualname := q, hasDict := true, slotNames := sn, subclasses := sub, abstract := ab, collection := col, hasDel := false } := by
  unfold clsIn
  rw [h] <;> rfl
section
variable {prog : Program} {w : World} {A : Around} {E : Value → Shared → Prop} {s : Shared} {K : Frag} {C fI x t0 : Addr}
/-- the bound built-in __init__, called with a text -/
theorem sup_call {u : Addr} {z : Value} {h : Heap} {g : Array GenState} {d : Drawn} {t : Nat} {os : OsState} {Q : Value → Shared → Prop} (T : OwnC K C fI) (X : K.In h) (he : h.get? x = some (PySem.HandSPX.excO C t0)) (hu : h.get? u = some (kxs_mw "ValueError.__init__" x))
    (hq : ∀ h2 t1, (∀ b o, b ≠ x → h.get? b = some o → h2.get? b = some o) → h2.get? x = some (PySem.HandSPX.excO C t1) → Q .none ⟨h2, g, d, t, os⟩) : wpAny (model prog w) A (call (.ref u) [z]) Q E ⟨h, g, d, t, os⟩ := by
  obtain ⟨nm, q, N, bs, bm, sn, sub, ab, col, dd, k0, k1, k2, k3, k5, hC, hbm⟩ := T.cls
  have one : [z].length ≤ sizeLine := by
    rw [sizeLine_eq]
    exact (by decide : 1 ≤ 16777216)
  refine wpAny_call (codeAny_of_tree ?_)
  show wpAny _ A.in1 (callAny (.ref u) ⟨[z], []⟩) _ _ _
  simp only [callAny]
  refine wpAny_bind (wpAny_load hu ?_)
  simp only [kxs_mw, show (Value.type "method-wrapper" == Value.type "method" || Value.type "method-wrapper" == Value.type "builtin_function_or_method" || Value.type "method-wrapper" == Value.type "method-wrapper") = true by decide, if_true]
  refine KFB.if_so (by decide) ?_
  refine wpAny_bind (check_bound_init F.excBase_ValueError.toExcCallFacts (X _ _ hC) he rfl ?_)
  refine wpAny_bind (wpAny_pure (wpAny_pure ⟨plainId_quiet F.excBase_ValueError.init.plain _, codeAny_builtin F.excBase_ValueError.initEntry ?_⟩))
  exact exc_init_tree (cls := .ref C) (t0 := t0) (dv := none) (c2 := .none) (c3 := .none) (b4 := .bool false) he one fun h2 k e2 _ => hq h2 _ k e2
/-- super().__init__('m') -/
theorem sup_stmt {m : Str} {j : Nat} {q1 q2 q3 q4 q5 q6 : Pos} {body : List Stmt} {st : Stmt} {qual : Str} {L : Addr} {mL : Str → Option Value} {Q : Flow → Shared → Prop} {oc doc pm ct cl ccl : Value} {od an cld cdd : Option Addr} {osl csl ccs : Array (Option Value)} {cda cc : Addr} {vs : Array Value} {file : Str} {tf : Tok} {mg mb : Str → Option Value}
    (T : OwnC K C fI) (X : K.In s.heap) (gg : s.heap.Ns mainGlobals mg) (gs : mg "super" = none) (gb : s.heap.Ns builtinsNs mb) (gt : mb "super" = some (.type "super")) (hns : s.heap.Ns L mL) (hm : mL "self" = some (.ref x)) (hx : s.heap.get? x = some (PySem.HandSPX.excO C t0))
    (l1 : K.lookup fI = some ⟨oc, od, .func (ksFn "__init__" qual (defArgs st) (defBody st) (defScope st) .none .none doc pm an (.ref cda) ct cc), osl⟩) (l2 : K.lookup cc = some ⟨cl, cld, .cell (some (.ref C)), csl⟩) (l3 : K.lookup cda = some ⟨ccl, cdd, .fields vs, ccs⟩) (l4 : vs[2]? = some (.str file tf))
    (l5 : ((prog.main.file : Str) == file) = true) (top : (prog.main.scope.names.lookup ("super" : Str)).isSome = false) (s1 : (defScope st).names.lookup ("super" : Str) = some .globalImplicit) (s2 : (defScope st).names.lookup ("__class__" : Str) = some .free) (s3 : (defScope st).names.lookup ("self" : Str) = some .local) (s4 : (defScope st).kind = .function)
    (hE : SupE m j q1 q2 q3 q4 q5 (ksEnv qual (defScope st) L fI (.ref cda) cc)) (hd : ∃ ar, ((defArgs st).posonlyargs ++ (defArgs st).args).head? = some ar ∧ ar.arg = "self")
    (hq : ∀ h2 t1 tk, (∀ b o, b ≠ x → s.heap.get? b = some o → h2.get? b = some o) → h2.get? x = some (PySem.HandSPX.excO C t1) → Q .next { s with heap := h2, toks := tk }) :
    _root_.PySem.wpAt (model prog w) A (.func body (ksEnv qual (defScope st) L fI (.ref cda) cc)) (exec (stSup m j q1 q2 q3 q4 q5 q6) (ksEnv qual (defScope st) L fI (.ref cda) cc)) Q E s := by
  obtain ⟨ar, hd1, hd2⟩ := hd
  obtain ⟨nm, q, N, bs, bm, sn, sub, ab, col, dd, k0, k1, k2, k3, k5, hC, hbm⟩ := T.cls
  have hcl := clsIn_of hC
  have hXC : x ≠ C := fun z => by
    have e := X _ _ hC
    rw [← z, hx] at e
    cases e
  obtain ⟨h, g, d, t, os⟩ := s
  have hCo := X _ _ hC
  unfold stSup
  obtain ⟨pl, hE⟩ := hE
  refine ks_wpAt_Expr_any (ks_wpAt_MethodCall (pl := pl) ?_ hE) (by simp [interactive, s4])
  refine ks_wpAt_super_base (env := ksEnv qual (defScope st) L fI (.ref cda) cc) s1 s2 rfl rfl (X _ _ l1) rfl hd1 rfl (X _ _ l3) rfl l4 l5 top ?_
  refine ks_loadName_global s4 s1 (loadGlobal_builtin (env := ksEnv qual (defScope st) L fI (.ref cda) cc) gg gs gb gt ⟨rfl, ?_⟩)
  refine wpAny_loadName_free s4 s2 rfl ⟨_, X _ _ l2, rfl⟩ ?_
  rw [hd2]
  refine wpAny_loadName_local s4 s3 hns hm ?_
  refine ks_wpAny_isType_cls hCo rfl ⟨rfl, ?_⟩
  refine ks_wpAny_call_super hCo rfl hx rfl (fun c z => by cases z) (looks_mroIn X T.mroC) fun h1 e1 k1 => ?_
  have X1 : K.In h1 := X.keeps k1
  have hx1 := k1 _ _ hx
  have hI : Looks (model prog w) h1 (isInstance (.ref x) (.type "ValueError")) true := (show InstAt h1 x (PySem.HandSPX.excO C t0) C none from ⟨hx1, rfl, rfl, trivial⟩).type.andThen (looks_subIn X1 T.subV)
  have hm2 := T.sup
  unfold ks_superIn at hm2
  rw [hcl] at hm2
  refine kxs_getMethod kxs_ValueError e1 (looks_opaque X1 T.opq) (l₀ := .ref C :: bm) (fun A Q E s k q => wpAny_bind ((looks_clsIn X1 hcl) A _ E s k (wpAny_pure q))) rfl X1 hm2 hI hXC (by decide) ?_
  have k2 : ∀ b o, h1.get? b = some o → (h1.push (kxs_mw "ValueError.__init__" x)).get? b = some o := fun b o e => Heap.get?_push_of_some _ e
  have hu : (h1.push (kxs_mw "ValueError.__init__" x)).get? h1.objs.size = some (kxs_mw "ValueError.__init__" x) := Heap.get?_push_at rfl rfl
  refine kxs_callWith (i := "ValueError.__init__") (x := x) rfl (evalArgs_plain (x := eval (.Constant (.str m) j q4) (ksEnv qual (defScope st) L fI (.ref cda) cc)) (spliced_cons (wpAny_Constant_str ?_)))
  refine spliced_nil ⟨hu, ?_⟩
  refine sup_call T (X1.keeps k2) (k2 _ _ hx1) hu fun h2 t1 k3 e3 => ?_
  exact hq h2 t1 _ (fun b o hb e => k3 b o hb (k2 _ _ (k1 _ _ e))) e3
/-- an exception's object, with its dict -/
abbrev excD (C t0 : Addr) (dx : Addr) : Obj := { cls := .ref C, dict := some dx, data := .fields #[.ref t0, .none, .none, .none, .bool false, .none] }
section
variable {f qual : Str} {v : Value} {st : Stmt} {L cda cc : Addr} {mL : Str → Option Value} {r1 r2 r3 r4 : Pos} {Q : Flow → Shared → Prop}
/-- self.f = f, the first one -/
theorem fld_first (T : OwnC K C fI) (X : K.In s.heap) (hns : s.heap.Ns L mL) (hm : mL "self" = some (.ref x)) (hv : mL f = some v) (s3 : (defScope st).names.lookup ("self" : Str) = some .local) (s4 : (defScope st).kind = .function) (sf : (defScope st).names.lookup f = some .local) (hdb : (f == ("__debug__" : Str)) = false)
    (hx : s.heap.get? x = some (PySem.HandSPX.excO C t0)) (no : findIn K (.ref C) f = some none) (hq : ∀ h2 tk dx, (∀ b o, b ≠ x → s.heap.get? b = some o → h2.get? b = some o) → s.heap.objs.size ≤ dx → dx ≠ x → h2.get? x = some (excD C t0 dx) → h2.Ns1 dx (fun y => if y = f then some v else none) → Q .next { s with heap := h2, toks := tk }) :
    wpAny (model prog w) A (exec (stFld f r1 r2 r3 r4) (ksEnv qual (defScope st) L fI (.ref cda) cc)) Q E s := by
  obtain ⟨nm, q, N, bs, bm, sn, sub, ab, col, dd, k0, k1, k2, k3, k5, hC, hbm⟩ := T.cls
  have hcl := clsIn_of hC
  unfold stFld
  refine plainObj_wpAny_Assign_Attribute (wpAny_Name (wpAny_loadName_local s4 sf hns hv ?_) hdb)
  refine wpAny_Name (wpAny_loadName_local s4 s3 hns hm ?_) (by decide)
  refine set_plain X (ox := PySem.HandSPX.excO C t0) (od := none) ⟨hx, rfl, rfl, trivial⟩ T.sa ?_
  exact PySem.HandSPX.exc_osa X hx hcl (show PySem.HandSPX.refsVE (.ref C :: bm) = true from hbm) rfl no fun h2 tk dx k dn dne e2 n2 => hq h2 tk dx k dn dne e2 n2
end
/-- what __init__ leaves -/
structure InitEnd (h h2 : Heap) (x C dx : Addr) (mA : Str → Option Value) : Prop where
  keep : ∀ b o, b ≠ x → h.get? b = some o → h2.get? b = some o
  obj : ∃ t1, h2.get? x = some (excD C t1 dx)
  dbig : h.objs.size ≤ dx
  dne : dx ≠ x
  ns : h2.Ns1 dx mA
theorem keptK {h h2 : Heap} (X : K.In h) (hn : K.lookup x = none) (k : ∀ b o, b ≠ x → h.get? b = some o → h2.get? b = some o) : K.In h2 := fun a o e => k a o (fun z => by rw [z, hn] at e; cases e) (X a o e)
theorem nsBut {h h2 : Heap} {L : Addr} {m : Str → Option Value} (n : h.Ns L m) (hne : L ≠ x) (k : ∀ b o, b ≠ x → h.get? b = some o → h2.get? b = some o) : h2.Ns L m := by
  obtain ⟨o, es, ep, ho, r⟩ := n
  exact ⟨o, es, ep, k _ _ hne ho, r⟩
section
variable {st : Stmt} {qual f f2 m : Str} {j : Nat} {q1 q2 q3 q4 q5 q6 r1 r2 r3 r4 p1 p2 p3 p4 : Pos} {v v2 : Value} {R : Result → Shared → Prop} {mg mb : Str → Option Value}
theorem own_init1 (T : OwnC K C fI) (FN : InitC prog K C fI st qual) (hB : defBody st = [stSup m j q1 q2 q3 q4 q5 q6, stFld f r1 r2 r3 r4]) (hE : ∀ L cda cc, SupE m j q1 q2 q3 q4 q5 (ksEnv qual (defScope st) L fI (.ref cda) cc))
    (hb : ∀ (doc pm : Value) (an : Option Addr) (cdv ct : Value) (cc : Addr) (u w : Value), bindArgs (ksFn "__init__" qual (defArgs st) (defBody st) (defScope st) .none .none doc pm an cdv ct cc) ⟨[u, w], []⟩ = pure [(("self" : Str), u), (f, w)])
    (sf : (defScope st).names.lookup f = some .local) (hdb : (f == ("__debug__" : Str)) = false) (hself : f ≠ "self") (no : findIn K (.ref C) f = some none)
    (X : K.In s.heap) (hlim : s.heap.NoLimit) (gg : s.heap.Ns mainGlobals mg) (gs : mg "super" = none) (gb : s.heap.Ns builtinsNs mb) (gt : mb "super" = some (.type "super")) (hx : s.heap.get? x = some (PySem.HandSPX.excO C t0)) (hnx : K.lookup x = none) (hroom : A.depth < recursionLimit)
    (hq : ∀ h2 tk dx, InitEnd s.heap h2 x C dx (fun y => if y = f then some v else none) → R (.ok (.ret .none)) { s with heap := h2, toks := tk }) :
    codeAny (model prog w) A (.call (.ref fI) ⟨[.ref x, v], []⟩) R s := by
  obtain ⟨oc, doc, pm, ct, cl, ccl, od, an, cld, cdd, osl, csl, ccs, cda, cc, vs, file, tf, l1, lc, l2, l3, l4, l5⟩ := FN.ex
  obtain ⟨s1, s2, s3, s4, s5, s6, s7⟩ := FN.hS
  refine ks_codeAny_call_defAt (fd := ksFn "__init__" qual (defArgs st) (defBody st) (defScope st) .none .none doc pm an (.ref cda) ct cc) (body := defBody st) (binds := [("self", .ref x), (f, v)]) hroom (X _ _ l1) rfl hlim (codeRec_of X lc) rfl (BindsTo.of_eq (hb _ _ _ _ _ _ _ _)) s7
    (fun y hy => by simp only [List.mem_cons, List.not_mem_nil, or_false] at hy; rcases hy with rfl | rfl; exact s3; exact sf) (fun h₁ hns hk => ?_) s5 s6 s4
  have X1 : K.In h₁ := X.keeps hk
  have hLx : s.heap.objs.size ≠ x := Nat.ne_of_gt (Heap.lt_size hx)
  have m1 : (fun y => [(("self" : Str), Value.ref x), (f, v)].reverse.lookup y) "self" = some (.ref x) := by
    have e : (("self" : Str) == f) = false := by simpa using Ne.symm hself
    simp [List.lookup, e]
  have m2 : (fun y => [(("self" : Str), Value.ref x), (f, v)].reverse.lookup y) f = some v := by simp [List.lookup]
  rw [hB]
  refine ks_wpAt_execs_cons (sup_stmt T X1 (gg.at fun o e => hk _ _ e) gs (gb.at fun o e => hk _ _ e) gt hns m1 (hk _ _ hx) l1 l2 l3 l4 l5 FN.top s1 s2 s3 s4 (hE _ _ _) FN.hd fun h2 t1 tk k2 e2 => ?_)
  refine ks_wpAt_execs_cons (wpAt_of_wpAny (fld_first T (keptK X1 hnx k2) (nsBut hns hLx k2) m1 m2 s3 s4 sf hdb e2 no fun h3 tk3 dx k3 dn dne e3 n3 => ?_))
  refine wpAt_of_wpAny (wpAny_execs_nil (hq h3 tk3 dx ⟨fun b o hb e => k3 b o hb (k2 b o hb (hk b o e)), ⟨t1, e3⟩, ?_, dne, n3⟩))
  have z1 : s.heap.objs.size < h₁.objs.size := hns.lt
  obtain ⟨oL, _, _, ho, _⟩ := nsBut hns hLx k2
  have z2 := Heap.lt_size ho
  exact Nat.le_trans (Nat.le_of_lt z2) dn
end
end
end DL
namespace DL
open PySem PySem.Spec PyProof.Rows L2 RT RZ
open PySem.W PySem.Calls
/-! ### C(e, ..) and raise -/
def mOf (ks : List Str) (us : List Value) : Str → Option Value := fun y => (ks.zip us).lookup y
/-- C's __init__ leaves these fields -/
def InitOk (P : Program) (w : World) (K : Frag) (C fI : Addr) (mg : Str → Option Value) (us : List Value) (mA : Str → Option Value) : Prop :=
  ∀ (A : Around) (R : Result → Shared → Prop) (s : Shared) (x t0 : Addr) (mb : Str → Option Value), K.In s.heap → s.heap.NoLimit → s.heap.Ns mainGlobals mg → s.heap.Ns builtinsNs mb → mb "super" = some (.type "super") → s.heap.get? x = some (PySem.HandSPX.excO C t0) → K.lookup x = none → A.depth < recursionLimit →
    (∀ h2 tk dx, InitEnd s.heap h2 x C dx mA → R (.ok (.ret .none)) { s with heap := h2, toks := tk }) → codeAny (model P w) A (.call (.ref fI) ⟨.ref x :: us, []⟩) R s
section
variable {prog : Program} {w : World} {A : Around} {s : Shared} {K : Frag} {C fI x t0 : Addr} {st : Stmt} {qual f f2 m : Str} {j : Nat} {q1 q2 q3 q4 q5 q6 r1 r2 r3 r4 p1 p2 p3 p4 : Pos} {v v2 : Value} {R : Result → Shared → Prop} {mg mb : Str → Option Value}
theorem initOk1 (T : OwnC K C fI) (FN : InitC prog K C fI st qual) (gs : mg "super" = none) (hB : defBody st = [stSup m j q1 q2 q3 q4 q5 q6, stFld f r1 r2 r3 r4]) (hE : ∀ L cda cc, SupE m j q1 q2 q3 q4 q5 (ksEnv qual (defScope st) L fI (.ref cda) cc))
    (hb : ∀ (doc pm : Value) (an : Option Addr) (cdv ct : Value) (cc : Addr) (u w : Value), bindArgs (ksFn "__init__" qual (defArgs st) (defBody st) (defScope st) .none .none doc pm an cdv ct cc) ⟨[u, w], []⟩ = pure [(("self" : Str), u), (f, w)])
    (sf : (defScope st).names.lookup f = some .local) (hdb : (f == ("__debug__" : Str)) = false) (hself : f ≠ "self") (no : findIn K (.ref C) f = some none) : ∀ us : List Value, us.length = [f].length → InitOk prog w K C fI mg us (mOf [f] us) := fun us hl => by
  match us, hl with
  | [v], _ =>
    intro A R s x t0 mb X hlim gg gb gt hx hnx hr hq
    refine own_init1 T FN hB hE hb sf hdb hself no X hlim gg gs gb gt hx hnx hr fun h2 tk dx I => hq h2 tk dx ?_
    have e : mOf [f] [v] = fun y => if y = f then some v else none := by
      funext y
      unfold mOf
      by_cases h : y = f
      · subst h; simp [List.lookup]
      · have e : (y == f) = false := by simpa using h
        simp [List.lookup, e, h]
    rw [e]
    exact I
/-- a made exception -/
structure Made (h h2 : Heap) (e C d : Addr) (mA : Str → Option Value) : Prop where
  keep : ∀ b o, h.get? b = some o → h2.get? b = some o
  new : h.objs.size ≤ e
  obj : ∃ t1, h2.get? e = some (excD C t1 d)
  dbig : h.objs.size ≤ d
  dne : d ≠ e
  ns : h2.Ns1 d mA
theorem own_made {us : List Value} {mA : Str → Option Value} (T : OwnC K C fI) (I : InitOk prog w K C fI mg us mA) (X : K.In s.heap) (hlim : s.heap.NoLimit) (gg : s.heap.Ns mainGlobals mg) (gb : s.heap.Ns builtinsNs mb) (gt : mb "super" = some (.type "super")) (hus : us.length ≤ sizeLine) (hroom : A.depth + 1 < recursionLimit)
    (hq : ∀ h2 tk e d, Made s.heap h2 e C d mA → R (.ok (.ret (.ref e))) { s with heap := h2, toks := tk }) : codeAny (model prog w) A (.call (.ref C) ⟨us, []⟩) R s := by
  obtain ⟨nm, q, N, bs, bm, sn, sub, ab, col, dd, k0, k1, k2, k3, k5, hC, hbm⟩ := T.cls
  obtain ⟨hp, g, dr, tk, os⟩ := s
  have up : ∀ b o, hp.get? b = some o → ((hp.push (kdv_tup us)).push (PySem.HandSPX.excO C hp.objs.size)).get? b = some o := fun b o e => Heap.get?_push_of_some _ (Heap.get?_push_of_some _ e)
  have at1 : ((hp.push (kdv_tup us)).push (PySem.HandSPX.excO C hp.objs.size)).get? (hp.objs.size + 1) = some (PySem.HandSPX.excO C hp.objs.size) := by heap_get
  have nK : K.lookup (hp.objs.size + 1) = none := by
    cases e : K.lookup (hp.objs.size + 1) with
    | none => rfl
    | some o => exact absurd (Nat.lt_of_succ_lt (Heap.lt_size (X _ _ e))) (Nat.lt_irrefl _)
  refine PySem.HandSPX.call_own F.excBase_ValueError (fun Y => PySem.HandSPX.refsVE_contains Y bm hbm) (X _ _ hC) (looks_findIn X T.iC) (fun self => bind_fn X self T.tI) hus ?_
  refine I _ _ ⟨(hp.push (kdv_tup us)).push (PySem.HandSPX.excO C hp.objs.size), g, dr, tk, os⟩ (hp.objs.size + 1) hp.objs.size mb (X.keeps up) (hlim.keeps up) (gg.at fun o e => up _ _ e) (gb.at fun o e => up _ _ e) gt at1 nK (by show A.depth + 1 < recursionLimit; exact hroom) fun h2 tk2 dx ⟨k, ho, dn, dne, hns⟩ => ?_
  have z : hp.objs.size + 1 + 1 ≤ dx := by
    first
      | (simpa only [Heap.size_push] using dn)
      | exact dn
  exact ⟨rfl, hq h2 tk2 (hp.objs.size + 1) dx ⟨fun b o e => k b o (Nat.ne_of_lt (Nat.lt_succ_of_lt (Heap.lt_size e))) (up b o e), Nat.le_succ _, ho, Nat.le_trans (Nat.le_trans (Nat.le_succ _) (Nat.le_succ _)) z, dne, hns⟩⟩
end
theorem relO_zip (y : Str) : ∀ (ks : List Str) {vs : List V} {us : List Value}, Vals vs us → RelO ((ks.zip vs).lookup y) ((ks.zip us).lookup y)
  | [], _, _, _ => by simp [List.lookup]; trivial
  | k :: ks, _, _, .nil => by simp [List.lookup]; trivial
  | k :: ks, _, _, .cons r t => by
    simp only [List.zip_cons_cons, List.lookup]
    cases y == k with
    | true => exact r
    | false => exact relO_zip y ks t
/-- what a made exception is in the abstract heap -/
def tMkX (C : Addr) (ks : List Str) (ta : TA) : L2.St → Hp → XK → Prop := fun σ H Q => ta σ H fun vs H1 => vs.length = ks.length ∧ ks.length ≤ 100 ∧ ∀ d, H1 d = none → Q (.ref C) (some d) (upd H1 d (.xd (ks.zip vs)))
section
variable {X : Cx} {C fI : Addr} {cn : Str} {ks : List Str} {e : Expr} {es : List Expr} {ta : TA} {p pos : Pos}
theorem pmk_x {k : Nat} (T : OwnC X.K C fI) (hI : ∀ us : List Value, us.length = ks.length → InitOk X.prog X.w X.K C fI X.mg us (mOf ks us)) (gC : X.mg cn = some (.ref C)) (hr : Room k X.A) (ha : PA X (e :: es) ta) (hg : Gl X cn) (hdb : (cn == ("__debug__" : Str)) = false := by decide)
    (he : starEach (e :: es) X.env = (false, eval e X.env) :: starEach es X.env := by rfl) (hpl : (backTo pos (starEach es X.env)).any (·.1) = false := by rfl) : L2N.PMk X (.Call (.Name cn p) (e :: es) [] pos) (tMkX C ks ta) := by
  intro pins s σ H Q I q
  refine wpAny_Call_Name_kw (ld_glob I hg gC ?_ hdb)
  refine PySem.W.callWith_K (h₀ := X.base) I.ok.mod.kin T.kC (thn (ha.run pos pins s σ H _ I q) fun us t1 w1 => ?_) he hpl
  obtain ⟨vs, H1, J, r, hl, hk, w1⟩ := w1
  refine ⟨J.kIn, ?_⟩
  show wpAny _ _ (call (.ref C) us) _ _ _
  have hus : us.length = ks.length := r.length.symm.trans hl
  have lim := J.nolimit
  obtain ⟨mb, bn, bb⟩ := J.ok.mod.blt
  have gg : t1.heap.Ns mainGlobals X.mg := J.ok.mod.glob.at fun o e => J.bk _ _ e
  have gb : t1.heap.Ns builtinsNs mb := bn.at fun o e => J.bk _ _ e
  have gt : mb "super" = some (.type "super") := (bb _ (by decide)).trans (by decide +kernel)
  obtain ⟨hp, g, dr, tk, os⟩ := t1
  refine wpAny_call (own_made (s := ⟨hp, g, dr, tk, os⟩) T (hI us hus) J.kIn lim gg gb gt (by rw [hus, sizeLine_eq]; omega) (by have := hr.dp; omega) fun h2 tk2 a d M => ?_)
  show L2N.MkP X pins σ Q (.ref a) ⟨h2, g, dr, tk2, os⟩
  obtain ⟨t0, ho⟩ := M.obj
  obtain ⟨G, g1, g2⟩ := restrict h2 fun b => decide (b ≠ a)
  have gk : ∀ b, b ≠ a → G.get? b = h2.get? b := fun b hb => g1 b (decide_eq_true hb)
  have ga : G.get? a = none := g2 a (by simp)
  have old : ∀ b o, hp.get? b = some o → G.get? b = some o := fun b o z => (gk b (Nat.ne_of_lt (Nat.lt_of_lt_of_le (Heap.lt_size z) M.new))).trans (M.keep b o z)
  have ob : ObjOk X.prog X.w (upd H1 d (.xd (ks.zip vs))) G d (.xd (ks.zip vs)) := ⟨_, M.ns.at (fun o z => (gk d M.dne).trans z), fun y => relO_zip y ks r⟩
  have J2 : Inv X pins σ (upd H1 d (.xd (ks.zip vs))) ⟨G, g, dr, tk2, os⟩ := J.laid (t' := tk2) old M.dbig ob
  refine ⟨a, _, _, ⟨G, g, dr, tk2, os⟩, _, .ref C, some d, rfl, J2, fun b o z => ?_, ga, ho, ⟨rfl, rfl, fun vs e => by cases e; rfl⟩, rfl, rfl, ?_, rfl, J.bare, raises_own T.exC T.tyC, w1 d (J.hok.fresh M.dbig)⟩
  · by_cases hb : b = a
    · have z : G.get? b = some o := z
      rw [hb, ga] at z
      cases z
    · exact (gk b hb).symm.trans z
  · rw [upd_ne (Ne.symm M.dne)]
    exact J.hok.fresh M.new
end
/-! the statement -/
def sRaise (cn : Str) (ks : List Str) (fs : Ev → Sto → Ans (List D)) : Ev → Sto → AnsS := fun env S => bindS (fs env S) env fun ds S1 => if ds.length = ks.length then some (.ex ⟨cn, some (ks.zip ds)⟩, env, S1) else none
theorem zip_fst {α β : Type} : ∀ (ks : List α) (vs : List β), vs.length = ks.length → (ks.zip vs).map (·.1) = ks ∧ (ks.zip vs).map (·.2) = vs
  | [], [], _ => ⟨rfl, rfl⟩
  | k :: ks, v :: vs, h => by
    obtain ⟨a, b⟩ := zip_fst ks vs (by simpa using h)
    exact ⟨by simp [a], by simp [b]⟩
/-- a class that can be raised: its fields -/
structure RaiseC (P : Program) (w : World) (K : Frag) (mg : Str → Option Value) (cn : Str) (ks : List Str) : Prop where
  ex : ∃ C fI, OwnC K C fI ∧ (∀ us : List Value, us.length = ks.length → InitOk P w K C fI mg us (mOf ks us)) ∧ mg cn = some (.ref C) ∧ nsIn K mainGlobals cn = some (some (.ref C))
  few : ks.length ≤ 100
theorem ds_raise {X : Cx} {W : WX} {cn : Str} {ks : List Str} {k : Nat} {e : Expr} {es : List Expr} {fs : Ev → Sto → Ans (List D)} {p pos pos2 : Pos} (hc : X.calm = true) (tk : L2N.Takes X W) (T : RaiseC X.prog X.w X.K X.mg cn ks) (hr : Room k X.A) (hg : Gl X cn) (ha : DA X W (e :: es) fs) (hdb : (cn == ("__debug__" : Str)) = false := by decide)
    (he : starEach (e :: es) X.env = (false, eval e X.env) :: starEach es X.env := by rfl) (hpl : (backTo pos (starEach es X.env)).any (·.1) = false := by rfl) : DS X W (.Raise (some (.Call (.Name cn p) (e :: es) [] pos)) none pos2) (sRaise cn ks fs) := by
  obtain ⟨C, fI, T1, T2, T3, T4⟩ := T.ex
  refine ps_weak (L2N.ps_raise hc tk (pmk_x T1 T2 T3 hr ha hg hdb he hpl)) fun E σ H ⟨io, S, env, o, env', S', rs, re, hf, hE⟩ => ?_
  refine tG_bindS rs re hf hE fun ds S1 io1 H1 vs _ e1 rs1 re1 rv1 h1 hE1 => ?_
  split at h1
  · rename_i hl
    cases h1
    have hlv : vs.length = ks.length := rv1.length.symm.trans hl
    refine ⟨hlv, T.few, fun d hd => ?_⟩
    have ex : Ext X.K io1 H1 io1 (upd H1 d (.xd (ks.zip vs))) := Ext.fresh hd
    refine hE1 io1 _ σ (.ref C) (some d) ex (rs1.fresh hd) (re1.mono ex) ⟨⟨T3, T4⟩, d, _, rfl, upd_same, ?_, ?_⟩
    · rw [(zip_fst ks vs hlv).1, (zip_fst ks ds hl).1]
    · rw [(zip_fst ks vs hlv).2, (zip_fst ks ds hl).2]
      exact RVs.mono ex _ _ rv1
  · cases h1
end DL
namespace VL
open PySem PySem.Spec PyProof.Rows L2 RT RZ DL
/-! ### exceptions over values -/
def prP (f : Str × P) : P := .tup [.str f.1, f.2]
def XP.fs (x : XP) : List P := (x.args.getD []).map prP
def XP.val (x : XP) : P := .exn x.cls x.fs
structure HP where
  tbl : List (Str × Bool)
  slot : Option Nat
  run : PE → Tau → AnsV
def putEP (i : Option Nat) (pe : PE) (p : Option P) : PE := match i with
  | none => pe
  | some i => pe.set i p
def handV : List HP → XP → PE → Tau → AnsV
  | [], x, pe, τ => some (.ex x, pe, τ)
  | h :: r, x, pe, τ => match h.tbl.lookup x.cls with
    | some true => if P.flats x.fs = true then (match h.run (putEP h.slot pe (some x.val)) τ with
      | some (.ex _, _, _) => none
      | some (o, pe2, τ2) => some (o, putEP h.slot pe2 none, τ2)
      | none => none) else none
    | some false => handV r x pe τ
    | none => none
def vTry (gb : PE → Tau → AnsV) (hs : List HP) : PE → Tau → AnsV := fun pe τ => match gb pe τ with
  | some (.ex x, pe1, τ1) => handV hs x pe1 τ1
  | y => y
def lookF (n : Str) : List P → Option P
  | .tup [.str k, v] :: r => if k = n then some v else lookF n r
  | _ => none
def vXf (cs : List Str) (n : Str) (ge : PE → Tau → AP P) : PE → Tau → AP P := fun pe τ => bindV (ge pe τ) fun a τ1 => match a with
  | .exn c l => if c ∈ cs then okV (lookF n l) τ1 else none
  | _ => none
def vXi (tbl : List (Str × Bool)) (ge : PE → Tau → AP P) : PE → Tau → AP P := fun pe τ => bindV (ge pe τ) fun a τ1 => match a with
  | .exn c _ => okV ((tbl.lookup c).map P.bl) τ1
  | _ => none
def vRaise (cn : Str) (ks : List Str) (gs : PE → Tau → AP (List P)) : PE → Tau → AnsV := fun pe τ => bindSV (gs pe τ) pe fun ps τ1 => if ps.length = ks.length ∧ ps.any P.isOwn = false then some (.ex ⟨cn, some (ks.zip ps)⟩, pe, τ1) else none
section
variable {t s : Nat} {ns : List Int} {b : Nat} {A B : Nat → Prop} {o o' : Ow} {S S' : Sto} {env env' : Ev} {pe pe' : PE} {τ τ' : Tau}
inductive SimHs (t s : Nat) (ns : List Int) : List HD → List HP → Prop
  | nil : SimHs t s ns [] []
  | cons {tbl : List (Str × Bool)} {i : Option Nat} {f : Ev → Sto → AnsS} {g : PE → Tau → AnsV} {l : List HD} {m : List HP} (h : SimS t s ns f g) (r : SimHs t s ns l m) : SimHs t s ns (⟨tbl, i, f⟩ :: l) (⟨tbl, i, g⟩ :: m)
theorem Rel.putN (h : Rel t b A o S env pe) (i : Option Nat) : Rel t b A o S (DL.putE i env none) (putEP i pe none) := by
  cases i with
  | none => exact h
  | some i =>
    refine ⟨by simp [DL.putE, putEP, h.len], fun j p e => ?_, h.inj, h.own, fun j l n ds k m g1 g2 g3 g4 => (by
      have g1 : (pe.set i none)[j]? = some (some (.ow2 l)) := g1
      have g2 : (env.set i none)[j]? = some (some (.ref n)) := g2
      rcases get_setS g1 with ⟨_, e, _⟩ | ⟨ne, e⟩
      · cases e
      · rw [List.getElem?_set_ne (fun z => ne z.symm)] at g2
        exact h.in2 j l n ds k m e g2 g3 g4)⟩
    have e : (pe.set i none)[j]? = some (some p) := e
    rcases get_setS e with ⟨_, e, _⟩ | ⟨ne, e⟩
    · cases e
    · obtain ⟨d, h1, h2, h3⟩ := h.slot j p e
      exact ⟨d, by show (env.set i none)[j]? = _; rw [List.getElem?_set_ne (fun z => ne z.symm)]; exact h1, h2, h3⟩
theorem Rel.putS (h : Rel t b A o S env pe) (nt : ¬ A t) {p : P} {d : D} (q : Rd t S (Av A o) p d) (i : Option Nat) : ∃ o', Rel t b A o' S (DL.putE i env (some d)) (putEP i pe (some p)) ∧ Stp t S o S o' := by
  cases i with
  | none => exact ⟨o, h, Stp.refl⟩
  | some i => exact ⟨_, h.set nt q i, setO_stp⟩
theorem fs_pairs : ∀ {fs : List (Str × P)} {gs : List (Str × D)}, gs.map (·.1) = fs.map (·.1) → Rds t S A (fs.map (·.2)) (gs.map (·.2)) → Rds t S A (fs.map prP) (gs.map prF)
  | [], [], _, _ => Rds.nil
  | [], g :: gs, k, _ => by simp at k
  | f :: fs, [], k, _ => by simp at k
  | f :: fs, g :: gs, k, q => by
    simp only [List.map_cons, List.cons.injEq] at k
    simp only [List.map_cons] at q
    unfold Rds at q
    obtain ⟨d, r, e, q1, q2⟩ := q
    cases e
    refine Rds.cons ?_ (fs_pairs k.2 q2)
    show Rd t S A (.tup [.str f.1, f.2]) (.tup [.str g.1, g.2])
    rw [k.1]
    exact mTup' (Rds.cons mStr' (Rds.cons q1 Rds.nil))
theorem fs_sim {x : XP} {e : Exn} (h : RdX t S A x e) : Rds t S A x.fs (Exn.fs e) := by
  obtain ⟨_, h2⟩ := h
  unfold XP.fs Exn.fs
  cases a1 : x.args with
  | none =>
    cases a2 : e.args with
    | none => exact Rds.nil
    | some gs => rw [a1, a2] at h2; exact h2.elim
  | some fs =>
    cases a2 : e.args with
    | none => rw [a1, a2] at h2; exact h2.elim
    | some gs =>
      rw [a1, a2] at h2
      exact fs_pairs h2.1 h2.2
theorem exn_app {x : XP} {e : Exn} (a : AdmS t s b A S) (r : Rel t b A o S env pe) (h : RdX t S A x e) (f : P.flats x.fs = true) : Rd t (S ++ [.exn e]) (Av A o) x.val (.ref S.length) := by
  show Rd t _ _ (.exn x.cls x.fs) _
  unfold Rd
  exact ⟨S.length, e, rfl, ⟨a.new _ (Nat.le_refl _), fun i z => absurd (r.own i _ z).2.2 (Nat.lt_irrefl _)⟩, get_last _ _, h.1, Rds.flat _ _ f (fs_sim h)⟩
theorem hand_sim : ∀ {hs : List HD} {gs : List HP}, SimHs t s ns hs gs → ∀ {x : XP} {e : Exn} {S : Sto} {o : Ow} {env : Ev} {pe : PE} {τ : Tau}, AdmS t s b A S → TpOk t s ns S τ → Rel t b A o S env pe → RdX t S A x e → Sim2 t s ns b A o S (handD hs e env S) (handV gs x pe τ) := by
  intro hs gs H
  induction H with
  | nil => exact fun a T r q => Sim2.ret (r := .ex _) (r' := .ex _) T ⟨q, r⟩
  | @cons tbl i f g l m h r ih =>
    intro x e S o env pe τ a T rl q
    simp only [handD, handV]
    rw [q.1]
    cases hl : tbl.lookup x.cls with
    | none => exact Sim2.none
    | some bb =>
      cases bb with
      | false => exact ih a T rl q
      | true =>
        by_cases hf : P.flats x.fs = true
        · simp only [hf, if_true]
          have fr : Fr t S (S ++ [.exn e]) := Fr.app S _
          have a2 := a.fr (S' := S ++ [.exn e]) fr.len
          obtain ⟨o1, r1, st1⟩ := (rl.fr a fr).putS a.tape (exn_app a rl q hf) i
          have run := h b A o1 (S ++ [.exn e]) _ _ τ a2 (T.app _) r1
          cases hv : g (putEP i pe (some x.val)) τ with
          | none => exact Sim2.none
          | some w =>
            obtain ⟨r2, pe2, τ2⟩ := w
            obtain ⟨r2', env2, S2, o2, e2, st2, T2, ro⟩ := run r2 pe2 τ2 hv
            rw [e2]
            have st : Stp t S o S2 o2 := ((fr.stp o).trans st1).trans st2
            cases r2 <;> cases r2' <;> first | exact ro.elim | skip
            · exact (Sim2.ret (r := .nx) (r' := .nx) T2 (ro.putN i)).stp st
            · exact (Sim2.ret (r := .rt _) (r' := .rt _) T2 ⟨ro.1, ro.2.putN i⟩).stp st
            · exact (Sim2.ret (r := .bk) (r' := .bk) T2 (ro.putN i)).stp st
            · exact (Sim2.ret (r := .ct) (r' := .ct) T2 (ro.putN i)).stp st
            · exact Sim2.none
        · simp only [hf, if_false]
          exact Sim2.none
theorem vs_try {fb : Ev → Sto → AnsS} {gb : PE → Tau → AnsV} {hs : List HD} {gs : List HP} (h : SimS t s ns fb gb) (H : SimHs t s ns hs gs) : SimS t s ns (sTry fb hs) (vTry gb gs) := fun b A o S env pe τ a T r => by
  have q := h b A o S env pe τ a T r
  unfold sTry vTry
  cases hv : gb pe τ with
  | none => exact Sim2.none
  | some w =>
    obtain ⟨r2, pe2, τ2⟩ := w
    obtain ⟨r2', env2, S2, o2, e2, st2, T2, ro⟩ := q r2 pe2 τ2 hv
    rw [e2]
    cases r2 <;> cases r2' <;> first | exact ro.elim | skip
    · exact (Sim2.ret (r := .nx) (r' := .nx) T2 ro).stp st2
    · exact (Sim2.ret (r := .rt _) (r' := .rt _) T2 ro).stp st2
    · exact (Sim2.ret (r := .bk) (r' := .bk) T2 ro).stp st2
    · exact (Sim2.ret (r := .ct) (r' := .ct) T2 ro).stp st2
    · exact (hand_sim H (a.fr st2.len) T2 ro.2 ro.1).stp st2
variable {fe : Ev → Sto → Ans D} {ge : PE → Tau → AP P} {fs : Ev → Sto → Ans (List D)} {gs : PE → Tau → AP (List P)}
theorem exn_of {c : Str} {l : List P} {d : D} (h : RdT t S A B (.exn c l) d) : ∃ x, exnOf d S = some x ∧ x.cls = c ∧ Rds t S B l (Exn.fs x) := by
  obtain ⟨n, x, rfl, h1, h2, h3⟩ := rExn h
  exact ⟨x, by simp only [exnOf, h1], h2, h3⟩
theorem look_fs {n : Str} {p : P} : ∀ {l : List P} {fs : List (Str × D)}, Rds t S B l (fs.map prF) → lookF n l = some p → ∃ d, fs.lookup n = some d ∧ Rd t S B p d
  | [], _, _, h => by simp [lookF] at h
  | q :: l, [], r, _ => by unfold Rds at r; obtain ⟨_, _, e, _⟩ := r; cases e
  | q :: l, f :: fs, r, h => by
    simp only [List.map_cons] at r
    unfold Rds at r
    obtain ⟨d, r0, e, r1, r2⟩ := r
    cases e
    unfold lookF at h
    split at h
    · rename_i k v rest he
      cases he
      have r1 : Rd t S B (.tup [.str k, v]) (.tup [.str f.1, f.2]) := r1
      unfold Rd at r1
      obtain ⟨ds, e, r1⟩ := r1
      cases e
      unfold Rds at r1
      obtain ⟨_, _, e, k1, r1⟩ := r1
      cases e
      unfold Rds at r1
      obtain ⟨_, _, e, k2, _⟩ := r1
      cases e
      unfold Rd at k1
      cases k1
      by_cases hk : f.1 = n
      · rw [if_pos hk] at h
        cases h
        refine ⟨f.2, ?_, k2⟩
        obtain ⟨f1, f2⟩ := f
        subst hk
        simp [List.lookup]
      · rw [if_neg hk] at h
        obtain ⟨d, g1, g2⟩ := look_fs r2 h
        refine ⟨d, ?_, g2⟩
        obtain ⟨f1, f2⟩ := f
        have e : (n == f1) = false := by simpa using Ne.symm hk
        simp only [List.lookup, e]
        exact g1
    · cases h
theorem v_xf (cs : List Str) (n : Str) (h : SimE t s ns fe ge) : SimE t s ns (dXf cs n fe) (vXf cs n ge) := fun A B S env pe τ a T r => (h A B S env pe τ a T r).bind fun p d S1 τ1 f1 T1 q1 => by
  cases p <;> first | exact Sim1.none | skip
  rename_i c l
  obtain ⟨x, h1, h2, h3⟩ := exn_of q1
  rw [h1]
  simp only
  by_cases hc : c ∈ cs
  · rw [if_pos hc, if_pos (by rw [h2]; exact hc)]
    cases hl : lookF n l with
    | none => exact Sim1.none
    | some v =>
      unfold Exn.fs at h3
      obtain ⟨d2, g1, g2⟩ := look_fs h3 hl
      cases ha : x.args with
      | none => rw [ha] at g1; simp [List.lookup] at g1
      | some fs =>
        rw [ha] at g1
        simp only [Option.getD_some] at g1
        simp only [g1]
        exact Sim1.ret T1 (.of g2)
  · rw [if_neg hc]
    exact Sim1.none
theorem v_xi (tbl : List (Str × Bool)) (h : SimE t s ns fe ge) : SimE t s ns (dXi tbl fe) (vXi tbl ge) := fun A B S env pe τ a T r => (h A B S env pe τ a T r).bind fun p d S1 τ1 f1 T1 q1 => by
  cases p <;> first | exact Sim1.none | skip
  rename_i c l
  obtain ⟨x, h1, h2, h3⟩ := exn_of q1
  rw [h1]
  simp only
  rw [h2]
  cases hl : tbl.lookup c with
  | none => exact Sim1.none
  | some v => exact Sim1.ret T1 (show RdT t S1 A B (.bl v) (.bl v) by unfold RdT Rd; rfl)
theorem vs_raise (cn : Str) (ks : List Str) (h : SimA t s ns fs gs) : SimS t s ns (sRaise cn ks fs) (vRaise cn ks gs) := fun b A o S env pe τ a T r =>
  Sim2.bind r a (h A _ S env pe τ (r.adm a) T r.e) fun ps ds S1 τ1 f T1 q => by
    by_cases hc : ps.length = ks.length ∧ ps.any P.isOwn = false
    · rw [if_pos hc]
      have q2 := RdTs.of ps hc.2 q
      have hl := q2.len
      rw [if_pos (by rw [← hl]; exact hc.1)]
      refine Sim2.ret (r := .ex _) (r' := .ex _) T1 ⟨⟨rfl, ?_, ?_⟩, r.fr a f⟩
      · rw [(zip_fst ks ps hc.1).1, (zip_fst ks ds (by rw [← hl]; exact hc.1)).1]
      · rw [(zip_fst ks ps hc.1).2, (zip_fst ks ds (by rw [← hl]; exact hc.1)).2]
        exact Rds.imp (fun n o b e => ⟨b.1, e⟩) _ _ q2
    · rw [if_neg hc]
      exact Sim2.none
end
/-! ### in W's style -/
section
variable {τ : Tau} {pe : PE} {E : XP → Tau → Prop} {Q : P → Tau → Prop} {R : OutP → PE → Tau → Prop} {ge : PE → Tau → AP P} {gs : PE → Tau → AP (List P)} {gb : PE → Tau → AnsV}
/-- behind a clause's suite -/
def kH (i : Option Nat) (R : OutP → PE → Tau → Prop) (o : OutP) (pe : PE) (τ : Tau) (tq : Tk R := tk) : Prop := match o with
  | .ex _ => False
  | o => R o (putEP i pe none) τ
@[simp] theorem kH_nx {i : Option Nat} : kH i R .nx pe τ = R .nx (putEP i pe none) τ := rfl
@[simp] theorem kH_rt {i : Option Nat} {p : P} : kH i R (.rt p) pe τ = R (.rt p) (putEP i pe none) τ := rfl
@[simp] theorem kH_bk {i : Option Nat} : kH i R .bk pe τ = R .bk (putEP i pe none) τ := rfl
@[simp] theorem kH_ct {i : Option Nat} : kH i R .ct pe τ = R .ct (putEP i pe none) τ := rfl
@[simp] theorem kH_ex {i : Option Nat} {x : XP} : kH i R (.ex x) pe τ = False := rfl
@[simp] theorem putEP_none {p : Option P} : putEP none pe p = pe := rfl
@[simp] theorem putEP_some {i : Nat} {p : Option P} : putEP (some i) pe p = pe.set i p := rfl
/-- an exception among the clauses -/
def WH (hs : List HP) (x : XP) (pe : PE) (τ : Tau) (R : OutP → PE → Tau → Prop) (tq : Tk R := tk) : Prop := WP (fun pe τ => handV hs x pe τ) pe τ R
@[simp ↓] theorem wh_nil {x : XP} : WH [] x pe τ R = R (.ex x) pe τ := rfl
theorem WH.cons {tbl : List (Str × Bool)} {i : Option Nat} {g : PE → Tau → AnsV} {hs : List HP} {x : XP} : WH (⟨tbl, i, g⟩ :: hs) x pe τ R = WO (tbl.lookup x.cls) fun b => iteP (b = true) (andP (P.flats x.fs = true) (WP g (putEP i pe (some x.val)) τ (fun o pe1 τ1 => kH i R o pe1 τ1))) (WH hs x pe τ R) := by
  unfold WH
  show (match handV (⟨tbl, i, g⟩ :: hs) x pe τ with | none => False | some (o, pe', τ') => R o pe' τ') = _
  simp only [handV]
  cases tbl.lookup x.cls with
  | none => rfl
  | some b =>
    cases b with
    | false => simp [iteP]; rfl
    | true =>
      simp only [wo_some, iteP_true]
      by_cases hf : P.flats x.fs = true
      · simp only [hf, if_true, andP_true]
        unfold WP
        cases g (putEP i pe (some x.val)) τ with
        | none => rfl
        | some q => obtain ⟨o, pe1, τ1⟩ := q; cases o <;> rfl
      · simp [hf, andP]
/-- behind the body of a try -/
def kT (hs : List HP) (R : OutP → PE → Tau → Prop) (o : OutP) (pe : PE) (τ : Tau) (tq : Tk R := tk) : Prop := match o with
  | .ex x => WH hs x pe τ R
  | o => R o pe τ
@[simp] theorem kT_nx {hs : List HP} : kT hs R .nx pe τ = R .nx pe τ := rfl
@[simp] theorem kT_rt {hs : List HP} {p : P} : kT hs R (.rt p) pe τ = R (.rt p) pe τ := rfl
@[simp] theorem kT_bk {hs : List HP} : kT hs R .bk pe τ = R .bk pe τ := rfl
@[simp] theorem kT_ct {hs : List HP} : kT hs R .ct pe τ = R .ct pe τ := rfl
@[simp] theorem kT_ex {hs : List HP} {x : XP} : kT hs R (.ex x) pe τ = WH hs x pe τ R := rfl
@[simp ↓] theorem wp_try {hs : List HP} : WP (vTry gb hs) pe τ R = WP gb pe τ (fun o pe1 τ1 => kT hs R o pe1 τ1) := by
  unfold WP vTry
  cases gb pe τ with
  | none => rfl
  | some q => obtain ⟨o, pe1, τ1⟩ := q; cases o <;> rfl
def xfP (cs : List Str) (n : Str) : P → Option P
  | .exn c l => if c ∈ cs then lookF n l else none
  | _ => none
def xiP (tbl : List (Str × Bool)) : P → Option P
  | .exn c _ => (tbl.lookup c).map P.bl
  | _ => none
@[simp] theorem xfP_exn {cs : List Str} {n c : Str} {l : List P} : xfP cs n (.exn c l) = if c ∈ cs then lookF n l else none := rfl
@[simp] theorem xiP_exn {tbl : List (Str × Bool)} {c : Str} {l : List P} : xiP tbl (.exn c l) = (tbl.lookup c).map P.bl := rfl
@[simp ↓] theorem we_xf {cs : List Str} {n : Str} : VL.WE (vXf cs n ge) pe τ Q E = VL.WE ge pe τ (fun a τ1 => WO (xfP cs n a) fun r => Q r τ1) E := by
  show W (bindV _ _) _ _ = _
  refine w_bind.trans (W.q fun a τ1 => ?_)
  cases a <;> first | rfl | skip
  rename_i c l
  simp only [xfP]
  by_cases h : c ∈ cs
  · rw [if_pos h, if_pos h]
    exact w_okV
  · rw [if_neg h, if_neg h]
    rfl
@[simp ↓] theorem we_xi {tbl : List (Str × Bool)} : VL.WE (vXi tbl ge) pe τ Q E = VL.WE ge pe τ (fun a τ1 => WO (xiP tbl a) fun r => Q r τ1) E := by
  show W (bindV _ _) _ _ = _
  refine w_bind.trans (W.q fun a τ1 => ?_)
  cases a <;> first | rfl | exact w_okV
@[simp ↓] theorem wp_raise {cn : Str} {ks : List Str} : WP (vRaise cn ks gs) pe τ R = VL.WE gs pe τ (fun ps τ1 => andP (ps.length = ks.length ∧ ps.any P.isOwn = false) (R (.ex ⟨cn, some (ks.zip ps)⟩) pe τ1)) (fun e τ1 => R (.ex e) pe τ1) := by
  refine (wp_bs (e := gs) rfl).trans (W.q fun ps τ1 => ?_)
  unfold andP WP
  by_cases h : ps.length = ks.length ∧ ps.any P.isOwn = false
  · rw [if_pos h]
    exact propext ⟨fun q => ⟨h, q⟩, fun q => q.2⟩
  · rw [if_neg h]
    exact propext ⟨fun q => q.elim, fun q => h q.1⟩
@[simp] theorem own_exn {c : Str} {l : List P} : (P.exn c l).isOwn = false := rfl
@[simp] theorem thaw_exn {c : Str} {l : List P} : (P.exn c l).thaw = .exn c l := rfl
@[simp] theorem XP_val {x : XP} : x.val = .exn x.cls x.fs := rfl
end
end VL
namespace DL
open PySem PySem.Spec PyProof.Rows L2 RT RZ
open PySem.W
/-! ### what the top says of its exception classes -/
theorem tbl_nil {β : Type} {Q : Str → β → Prop} : ∀ cn b, ([] : List (Str × β)).lookup cn = some b → Q cn b := fun _ _ h => by cases h
theorem tbl_cons {β : Type} {Q : Str → β → Prop} {a : Str} {x : β} {r : List (Str × β)} (h : Q a x) (t : ∀ cn b, r.lookup cn = some b → Q cn b) : ∀ cn b, ((a, x) :: r).lookup cn = some b → Q cn b := fun cn b e => by
  by_cases q : cn == a
  · simp only [List.lookup, q] at e
    cases e
    rw [show cn = a by simpa using q]
    exact h
  · simp only [List.lookup, Bool.eq_false_iff.mpr q] at e
    exact t cn b e
/-- the class that the name x stands for catches these -/
structure CatchC (K : Frag) (mg : Str → Option Value) (x : Str) (tbl : List (Str × Bool)) : Prop where
  ex : ∃ c, mg x = some c ∧ ∀ cn b, tbl.lookup cn = some b → ∀ cv, nsIn K mainGlobals cn = some (some cv) → exmOne K cv c = some b
structure XfT (K : Frag) (cs : List Str) (n : Str) : Prop where
  all : ∀ cn ∈ cs, ∃ C, nsIn K mainGlobals cn = some (some (.ref C)) ∧ XfC K C ∧ findIn K (.ref C) n = some none
structure IsG (K : Frag) (mg : Str → Option Value) (x : Str) (tbl : List (Str × Bool)) : Prop where
  ex : ∃ c, mg x = some (.ref c) ∧ ∀ cn b, tbl.lookup cn = some b → ∃ C, nsIn K mainGlobals cn = some (some (.ref C)) ∧ IsC K C ∧ kitOne K (.ref C) (.ref c) = some b
structure IsB (K : Frag) (T : String) (tbl : List (Str × Bool)) : Prop where
  all : ∀ cn b, tbl.lookup cn = some b → ∃ C, nsIn K mainGlobals cn = some (some (.ref C)) ∧ IsC K C ∧ kitOne K (.ref C) (.type T) = some b
section
variable {X : Cx} {W : WX}
theorem hd_named {x n : Str} {i : Nat} {b₀ : Stmt} {suite : List Stmt} {np pos' : Pos} {hds : List ExceptHandler} {l : List HD} {tbl : List (Str × Bool)} {fr : Ev → Sto → AnsS} (T : CatchC X.K X.mg x tbl) (hg : Gl X x) (hi : X.N[i]? = some n) (hl : X.env.kindOf n = some .local)
    (hs : ∀ (a : Addr) (pn : List (Addr × Obj)), DSsh (X.suite a pn) a (b₀ :: suite) fr) (r : HdsD X hds l) (hdb : (x == ("__debug__" : Str)) = false := by decide) : HdsD X (.ExceptHandler (some (.Name x np)) (some n) (b₀ :: suite) pos' :: hds) (⟨tbl, some i, fr⟩ :: l) := by
  obtain ⟨c, h1, h2⟩ := T.ex
  exact .named hi hl ⟨hg, hdb, .inl h1⟩ h2 hs r
variable {e : Expr} {fe : Ev → Sto → Ans D} {pos p p2 : Pos} {TN : Str} {tbl : List (Str × Bool)}
theorem d_xiC (hg : Gl X "isinstance") (hm : X.mg "isinstance" = none) (hgT : Gl X TN) (T : IsG X.K X.mg TN tbl) (he : DE X W e fe) (hdb : (TN == ("__debug__" : Str)) = false := by decide)
    (hs : starEach [e, .Name TN p2] X.env = (false, eval e X.env) :: starEach [.Name TN p2] X.env := by rfl) (hs2 : starEach [.Name TN p2] X.env = (false, eval (.Name TN p2) X.env) :: starEach [] X.env := by rfl) (hpl : (backTo pos (starEach [.Name TN p2] X.env)).any (·.1) = false := by rfl) :
    DE X W (.Call (.Name "isinstance" p) [e, .Name TN p2] [] pos) (dXi tbl fe) := by
  obtain ⟨c, h1, h2⟩ := T.ex
  exact d_xi (cv := .ref c) hg hm (pe_globC hgT h1 hdb) (fun u r => r) h2 he hs hs2 hpl
theorem d_xiB {TT : String} (hg : Gl X "isinstance") (hm : X.mg "isinstance" = none) (hgT : Gl X TN) (hmT : X.mg TN = none) (hT : bootBuiltins TN = some (.type TT)) (T : IsB X.K TT tbl) (he : DE X W e fe) (hn : TN ≠ "__name__" := by decide) (hdb : (TN == ("__debug__" : Str)) = false := by decide)
    (hs : starEach [e, .Name TN p2] X.env = (false, eval e X.env) :: starEach [.Name TN p2] X.env := by rfl) (hs2 : starEach [.Name TN p2] X.env = (false, eval (.Name TN p2) X.env) :: starEach [] X.env := by rfl) (hpl : (backTo pos (starEach [.Name TN p2] X.env)).any (·.1) = false := by rfl) :
    DE X W (.Call (.Name "isinstance" p) [e, .Name TN p2] [] pos) (dXi tbl fe) :=
  d_xi (cv := .type TT) hg hm (pe_bltn (v := .ty TT) hgT hmT hT rfl hn hdb) (fun u r => r) T.all he hs hs2 hpl
end
/-! the classes' objects -/
def clsB : Stmt → List Stmt
  | .ClassDef (body := b) .. => b
  | _ => []
section
variable {P : Program} {w : World} {K : Frag} {mg : Str → Option Value}
/-- what is asked of the written part for an exception class at C -/
structure ClsW (K : Frag) (C : Addr) : Prop where
  cl : (clsIn K C).isSome = true
  ga : findIn K (.ref C) "__getattribute__" = some (some (.builtin "BaseException.__getattribute__"))
  gt : findIn K (.ref C) "__getattr__" = some none
  sub : subIn K (.ref C) (.type "BaseException") = some true
  hd : hasDictIn K C = true
  cc : findIn K (.ref C) "__class__" = some (some (.builtin "object.__class__"))
  sp : specialIn K (.builtin "object.__class__") "__get__" = some (some (.builtin "getset_descriptor.__get__"))
  tk : takesIn K (.builtin "object.__class__") = some true
  ob : mroIn K C (.type "object") = some true
  ty : typeIn K (.ref C) = some (.type "type")
theorem ClsW.is {C : Addr} (h : ClsW K C) : IsC K C := ⟨h.cl, h.ga, h.gt, h.sub, h.cc, h.sp, h.tk, h.ob⟩
theorem ClsW.xf {C : Addr} (h : ClsW K C) : XfC K C := ⟨h.ga, h.gt, h.sub, h.hd⟩
theorem clsSome {C : Addr} {nm q : Str} {N : Addr} {bs bm : List Value} {sn : List Str} {sub : List Value} {ab : Bool} {col : Option Bool} {dd : Option Addr} {k0 k1 k2 k3 k5 : Option Value} {nw : String} (h : K.lookup C = some (excClassObj nm q C N bs bm true sn sub ab col dd k0 k1 k2 k3 k5 nw)) : (clsIn K C).isSome = true := by
  rw [clsIn_of h]
  rfl
theorem catch_mk {x : Str} {tbl : List (Str × Bool)} {C : Addr} (g : mg x = some (.ref C)) (W : ClsW K C) (h : ∀ cn b, tbl.lookup cn = some b → ∃ D, nsIn K mainGlobals cn = some (some (.ref D)) ∧ subIn K (.ref D) (.ref C) = some b) : CatchC K mg x tbl :=
  ⟨.ref C, g, fun cn b e cv hcv => by
    obtain ⟨D, h1, h2⟩ := h cn b e
    rw [h1] at hcv
    cases hcv
    exact exm_ref W.sub W.hd W.ty h2⟩
end
end DL
namespace DL
open PySem PySem.Spec PyProof.Rows L2 RT RZ
/-! ### x = [.. for .. for ..] -/
end DL
namespace VL
open PySem PySem.Spec PyProof.Rows L2 RT RZ DL
/-! ### x = y + f(..), where f writes into dicts or lists of its caller -/
def vAsgOpIO (tg : Tg) (i : Nat) (h : P → P → Option P) (js is : List Nat) (G : MirIO) (gs : PE → Tau → AP (List P)) : PE → Tau → AnsV := fun pe τ => match pe[i]? with
  | some (some _) => ioV (α := P) js is G gs pe τ fun p pe1 τ1 => match pe1[i]? with
    | some (some x) => match h x p with
      | some z => match putP tg z pe1 with
        | some pe2 => some (.nx, pe2, τ1)
        | none => none
      | none => none
    | _ => none
  | _ => none
def vAsgOOpIO (k i : Nat) (h : P → P → Option P) (js is : List Nat) (G : MirIO) (gs : PE → Tau → AP (List P)) : PE → Tau → AnsV := fun pe τ => match pe[i]? with
  | some (some _) => ioV (α := P) js is G gs pe τ fun p pe1 τ1 => match pe1[i]? with
    | some (some x) => match h x p with
      | some (.lst l) => some (.nx, pe1.set k (some (.own l)), τ1)
      | _ => none
    | _ => none
  | _ => none
section
variable {τ : Tau} {pe : PE} {R : OutP → PE → Tau → Prop} {gs : PE → Tau → AP (List P)}
@[simp ↓] theorem wp_asgOpIO (tg : Tg) (i : Nat) (h : P → P → Option P) (js is : List Nat) (G : MirIO) : WP (vAsgOpIO tg i h js is G gs) pe τ R = WO (pe[i]?.join) fun _ => VL.WE gs pe τ (fun ps τ1 => andP (plainX 0 js ps = true) (W (G ps τ1) (fun r τ2 => WO ((setX is r.2 pe)[i]?.join) fun x => WO (h x r.1) fun z => WO (putP tg z (setX is r.2 pe)) fun pe2 => R .nx pe2 τ2) (fun e τ2 => R (.ex e) (wipeV pe is) τ2))) (fun e τ1 => R (.ex e) pe τ1) := by
  unfold vAsgOpIO
  cases hi : pe[i]? with
  | none => simp [WP, WO, hi]
  | some y =>
    cases y with
    | none => simp [WP, WO, hi]
    | some x0 =>
      simp only [WP, hi]
      refine Eq.trans ?_ (Eq.trans (wp_ioV (R := R) (pe := pe) (τ := τ) (gs := gs) (js := js) (is := is) (G := G) (k := fun p pe1 τ1 => match pe1[i]? with
        | some (some x) => match h x p with
          | some z => match putP tg z pe1 with
            | some pe2 => some (.nx, pe2, τ1)
            | none => none
          | none => none
        | _ => none)) (W.q fun ps τ1 => andP.q (W.q fun r τ2 => ?_)))
      · rfl
      · unfold WP
        cases hj : (setX is r.2 pe)[i]? with
        | none => simp [WO]
        | some y =>
          cases y with
          | none => simp [WO]
          | some x =>
            simp only [Option.join_some, wo_some]
            cases h x r.1 with
            | none => rfl
            | some z =>
              simp only [wo_some]
              cases putP tg z (setX is r.2 pe) <;> rfl
@[simp ↓] theorem wp_asgOOpIO (k i : Nat) (h : P → P → Option P) (js is : List Nat) (G : MirIO) : WP (vAsgOOpIO k i h js is G gs) pe τ R = WO (pe[i]?.join) fun _ => VL.WE gs pe τ (fun ps τ1 => andP (plainX 0 js ps = true) (W (G ps τ1) (fun r τ2 => WO ((setX is r.2 pe)[i]?.join) fun x => WO (h x r.1) fun z => WO (lstP z) fun l => R .nx ((setX is r.2 pe).set k (some (.own l))) τ2) (fun e τ2 => R (.ex e) (wipeV pe is) τ2))) (fun e τ1 => R (.ex e) pe τ1) := by
  unfold vAsgOOpIO
  cases hi : pe[i]? with
  | none => simp [WP, WO, hi]
  | some y =>
    cases y with
    | none => simp [WP, WO, hi]
    | some x0 =>
      simp only [WP, hi]
      refine Eq.trans ?_ (Eq.trans (wp_ioV (R := R) (pe := pe) (τ := τ) (gs := gs) (js := js) (is := is) (G := G) (k := fun p pe1 τ1 => match pe1[i]? with
        | some (some x) => match h x p with
          | some (.lst l) => some (.nx, pe1.set k (some (.own l)), τ1)
          | _ => none
        | _ => none)) (W.q fun ps τ1 => andP.q (W.q fun r τ2 => ?_)))
      · rfl
      · unfold WP
        cases hj : (setX is r.2 pe)[i]? with
        | none => simp [WO]
        | some y =>
          cases y with
          | none => simp [WO]
          | some x =>
            simp only [Option.join_some, wo_some]
            cases h x r.1 with
            | none => rfl
            | some z => cases z <;> rfl
end
end VL
namespace DL
open PySem PySem.Spec PyProof.Rows L2 RT RZ
/-! ### [(c, x, d[k]) for k in d] -/
end DL
namespace VL
open PySem PySem.Spec PyProof.Rows L2 RT RZ DL
/-! ### the same in values -/
def triP (c : Str) (x : P) (L : List P) : P → P
  | .tup [k, _] => .tup [.str c, x, ((keyP k).bind (lookP L)).getD .non]
  | e => e
def qTriD (c : Str) : List P → Option P
  | [p, x] => match dctP p with
    | some l => if x.isOwn = false ∧ l.length ≤ sizeLine ∧ l.all (pairOk l) = true then some (.lst (l.map (triP c x l))) else none
    | none => none
  | _ => none
@[simp] theorem qTriD_two (c : Str) (p x : P) : qTriD c [p, x] = match dctP p with
    | some l => if x.isOwn = false ∧ l.length ≤ sizeLine ∧ l.all (pairOk l) = true then some (.lst (l.map (triP c x l))) else none
    | none => none := rfl
end VL
namespace DL
open PySem PySem.Spec PyProof.Rows L2 RT RZ
/-! ### l.index(x), where things are compared in depth -/
def ixD (ds : List PyData) (x : PyData) : Option Nat := ds.findIdx? fun z => PyData.eqv z x
end DL
namespace VL
open PySem PySem.Spec PyProof.Rows L2 RT RZ DL
def isLstP : P → Bool
  | .lst _ => true
  | .own _ => true
  | _ => false
def pIndex (a b : P) : Option P := if isLstP a = true then match pyT a, pyT b with
  | some (.list ds), some x => if SeqAt.shaped (.list ds) = true ∧ SeqAt.shaped x = true then match ixD ds x with
      | some j => some (.int j)
      | none => none
    else none
  | _, _ => none
  else none
section
variable {t s : Nat} {ns : List Int} {fa fb : Ev → Sto → Ans D} {ga gb : PE → Tau → AP P}
/-- a.index(b) -/
def vIM (ga gb : PE → Tau → AP P) : PE → Tau → AP P := fun pe τ => bindV (ga pe τ) fun a τ1 => if isLstP a = true then bindV (gb pe τ1) fun b τ2 => okV (pIndex a b) τ2 else none
end
section
variable {τ : Tau} {pe : PE} {E : XP → Tau → Prop} {fa fb : PE → Tau → AP P} {Q : P → Tau → Prop}
theorem w_gate {c : Prop} [Decidable c] {x : AP P} : W (if c then x else none) Q E = andP c (W x Q E) := by
  unfold andP
  by_cases h : c <;> simp [h, W]
@[simp ↓] theorem we_im : WE (vIM fa fb) pe τ Q E = WE fa pe τ (fun a τ1 => andP (isLstP a = true) (WE fb pe τ1 (fun b τ2 => WO (pIndex a b) fun r => Q r τ2) E)) E := by
  show W (bindV _ _) _ _ = _
  exact w_bind.trans (W.q fun a τ1 => w_gate.trans (congrArg (andP _) (w_bind.trans (W.q fun b τ2 => w_okV))))
@[simp] theorem isLstP_lst (l : List P) : isLstP (.lst l) = true := rfl
@[simp] theorem isLstP_own (l : List P) : isLstP (.own l) = true := rfl
end
end VL
namespace DL
open PySem PySem.Spec PyProof.Rows L2 RT RZ
/-! ### range(i, j, c); reversed(range(n)) -/
def stepN (i j c : Int) : Nat := if i < j then ((j - i - 1) / c + 1).toNat else 0
def stepL (lo c : Int) (n : Nat) : List D := (List.range n).map fun (k : Nat) => D.int (lo + (k : Nat) * c)
def RgS (i j c : Int) : Prop := 0 < c ∧ c ≤ 1000000 ∧ 0 ≤ i ∧ i ≤ 1000000000 ∧ 0 ≤ j ∧ j ≤ 1000000000
instance (i j c : Int) : Decidable (RgS i j c) := inferInstanceAs (Decidable (_ ∧ _))
theorem stepL_get {lo c : Int} {n i : Nat} {x : D} (h : (stepL lo c n)[i]? = some x) : i < n ∧ x = .int (lo + (i : Nat) * c) := by
  unfold stepL at h
  rw [List.getElem?_map] at h
  by_cases hi : i < n
  · rw [List.getElem?_range hi] at h
    cases h
    exact ⟨hi, rfl⟩
  · rw [List.getElem?_eq_none (by simpa using hi)] at h
    cases h
theorem ItOk.stepR {K : PySem.W.Frag} {io : List Addr} {H : Hp} {lo c : Int} {n : Nat} (ok : Sto → Prop) : ItOk K io H ⟨ok, stepL lo c n⟩ (Itc lo c n) := fun i io' S' H' ex rs _ => by
  refine ⟨fun hi => by have h : n ≤ i := by simpa [stepL] using hi
                       exact h, fun x hx => ?_⟩
  obtain ⟨hi, rfl⟩ := stepL_get hx
  refine ⟨hi, fun w H2 hy => ?_⟩
  obtain ⟨rfl, rfl⟩ := hy
  exact ⟨io', Ext.refl, rs, by simp [RV]⟩
noncomputable def wRngR (fe : Ev → Sto → Ans D) : Ev → Sto → Ans Wk := fun env S => bindR (fe env S) fun d S1 => match d with
  | .int j => if RgB j then some (.ok ⟨fun _ => True, stepL ((j.toNat : Int) - 1) (-1) j.toNat⟩, S1) else none
  | _ => none
section
variable {X : Cx} {W : WX} {tg e e2 e3 : Expr} {fe : Ev → Sto → Ans D} {fs : Ev → Sto → Ans (List D)} {p p2 pos pos2 : Pos}
theorem di_rngR (hg : Gl X "reversed") (hm : X.mg "reversed" = none) (hg2 : Gl X "range") (hm2 : X.mg "range" = none) (he : DE X W e fe) (na : starEach [e] X.env = (false, eval e X.env) :: starEach [] X.env := by rfl) (hs : starEach [.Call (.Name "range" p2) [e] [] pos2] X.env = (false, eval (.Call (.Name "range" p2) [e] [] pos2) X.env) :: starEach [] X.env := by rfl) : DI X W tg (.Call (.Name "reversed" p) [.Call (.Name "range" p2) [e] [] pos2] [] pos) (wRngR fe) :=
  pi_weak (pi_revR hg hm (prg_1 hg2 hm2 he na) hs) fun σ H R ⟨io, S, env, r, S', rs, re, hf, hE⟩ => tG_bind rs re hf hE fun d S1 io1 H1 v e1 rs1 re1 rv1 h1 hE1 => by
    cases d with
    | int j =>
      simp only at h1
      split at h1
      · rename_i hb
        cases h1
        refine ⟨j, sIntII rv1, by omega, by omega, hb.1, hb.2, ?_⟩
        rw [show (0 : Int) + (((j - 0).toNat : Nat) : Int) - 1 = ((j.toNat : Nat) : Int) - 1 by omega, show (j - 0).toNat = j.toNat by omega]
        exact hE1.now rs1 (ItOk.stepR _)
      · cases h1
    | _ => cases h1
end
end DL
namespace VL
open PySem PySem.Spec PyProof.Rows L2 RT RZ DL
def stepP (lo c : Int) (n : Nat) : List P := (List.range n).map fun (k : Nat) => P.int (lo + (k : Nat) * c)
def qRng3 : List P → Option (List P)
  | [.int i, .int j, .int c] => if RgS i j c then some (stepP i c (stepN i j c)) else none
  | _ => none
def wvRng3 (gs : PE → Tau → AP (List P)) : PE → Tau → AP (List P) := fun pe τ => bindV (gs pe τ) fun ps τ1 => okV (qRng3 ps) τ1
noncomputable def qRngR : P → Option (List P)
  | .int j => if RgB j then some (stepP ((j.toNat : Int) - 1) (-1) j.toNat) else none
  | _ => none
noncomputable def wvRngR (ga : PE → Tau → AP P) : PE → Tau → AP (List P) := fun pe τ => bindV (ga pe τ) fun p τ1 => okV (qRngR p) τ1
section
variable {t s : Nat} {ns : List Int} {S : Sto} {A B : Nat → Prop} {fa : Ev → Sto → Ans D} {ga : PE → Tau → AP P} {fs : Ev → Sto → Ans (List D)} {gs : PE → Tau → AP (List P)}
theorem stepRd (lo c : Int) (n : Nat) : Rds t S B (stepP lo c n) (stepL lo c n) := by
  unfold stepP stepL
  induction (List.range n) with
  | nil => exact Rds.nil
  | cons k l ih => exact Rds.cons mInt' ih
theorem wv_rngR (ha : SimE t s ns fa ga) : SimIS t s ns (wRngR fa) (wvRngR ga) := fun A B S env pe τ a T r => (ha A B S env pe τ a T r).bind fun x y S1 τ1 f1 T1 q1 => by
  cases hx : qRngR x with
  | none => exact Sim1.none
  | some l =>
    refine fun r τ' e => ?_
    cases e
    unfold qRngR at hx
    split at hx
    · split at hx
      · rename_i hb
        cases hx
        rw [rInt q1]
        exact ⟨_, S1, if_pos hb, Fr.refl, T1, stepRd _ _ _, fun _ _ => trivial⟩
      · cases hx
    · cases hx
end
section
variable {τ : Tau} {pe : PE} {E : XP → Tau → Prop} {fa : PE → Tau → AP P} {gs : PE → Tau → AP (List P)} {QL : List P → Tau → Prop}
@[simp ↓] theorem we_wrng3 : WE (wvRng3 gs) pe τ QL E = WE gs pe τ (fun d τ1 => WO (qRng3 d) fun l => QL l τ1) E := by
  show W (bindV _ _) _ _ = _
  exact w_bind.trans (W.q fun a τ1 => w_okV)
@[simp ↓] theorem we_wrngR : WE (wvRngR fa) pe τ QL E = WE fa pe τ (fun d τ1 => WO (qRngR d) fun l => QL l τ1) E := by
  show W (bindV _ _) _ _ = _
  exact w_bind.trans (W.q fun a τ1 => w_okV)
@[simp] theorem W_qRng3 (i j c : Int) : qRng3 [.int i, .int j, .int c] = if RgS i j c then some (stepP i c (stepN i j c)) else none := rfl
@[simp] theorem W_qRngR (j : Int) : qRngR (.int j) = if RgB j then some (stepP ((j.toNat : Int) - 1) (-1) j.toNat) else none := rfl
@[simp] theorem stepP_len (lo c : Int) (n : Nat) : (stepP lo c n).length = n := by simp [stepP]
end
end VL
namespace DL
open PySem PySem.Spec PyProof.Rows L2 RT RZ
/-! ### [x for x in l if x] of a list of truth values, while an exception is handled -/
theorem HotO.at {X : Cx} {pins : List (Addr × Obj)} {σ : L2.St} {H : Hp} {s : Shared} {a : Addr} (hh : X.A.handled = some (.ref a)) (h : HotO a H) (I : Inv X pins σ H s) : HotX.HotAt X.A a s.heap := by
  obtain ⟨oe, φ, vs, h1, h2, h3⟩ := h
  exact ⟨hh, oe, vs, (I.hok a _ h1).1, h2, h3⟩
theorem SqL.fresh {K : PySem.W.Frag} {H : Hp} {p a : Addr} {o : HO} {vs : List V} (hp : H p = none) (h : SqL K H a vs) : SqL K (upd H p o) a vs := by
  rcases h with (h | ⟨u, h⟩) | h
  · exact .inl (.inl (by rw [upd_ne (ne_of_none h hp)]; exact h))
  · exact .inl (.inr ⟨u, by rw [upd_ne (ne_of_none h hp)]; exact h⟩)
  · exact .inr h
/-! ### what is read while the exception at a is handled -/
theorem HotO.ext {K : PySem.W.Frag} {io io' : List Addr} {H H' : Hp} {a : Addr} (h : HotO a H) (e : Ext K io H io' H') : HotO a H' := by
  obtain ⟨oe, φ, vs, h1, h2, h3⟩ := h
  exact ⟨oe, φ, vs, e.stay a _ trivial h1, h2, h3⟩
/-! the comprehension, as a computation -/
/-! ### defs that are called while an exception is handled -/
theorem _root_.L2H.RoomH.units {k : Nat} {A : Around} (r : L2H.RoomH k A) : A.units + 64 < cLine := by have := r.un; omega
end DL
namespace VL
open PySem PySem.Spec PyProof.Rows L2 RT RZ DL
/-! ### the truth values of a list that hold -/
def blsQ : List P → Option (List Bool)
  | [] => some []
  | .bl b :: r => (blsQ r).map (b :: ·)
  | _ => none
def qTrues : List P → Option P
  | [.lst l] => match blsQ l with
    | some bs => if bs.length < sizeLine then some (.lst ((bs.filter id).map P.bl)) else none
    | none => none
  | [.own l] => match blsQ l with
    | some bs => if bs.length < sizeLine then some (.lst ((bs.filter id).map P.bl)) else none
    | none => none
  | _ => none
theorem blsQ_map : ∀ (bs : List Bool), blsQ (bs.map P.bl) = some bs
  | [] => rfl
  | b :: bs => by simp [blsQ, blsQ_map bs]
@[simp] theorem qTrues_lst (bs : List Bool) : qTrues [.lst (bs.map P.bl)] = if bs.length < sizeLine then some (.lst ((bs.filter id).map P.bl)) else none := by
  unfold qTrues
  simp only [blsQ_map]
@[simp] theorem qTrues_own (bs : List Bool) : qTrues [.own (bs.map P.bl)] = if bs.length < sizeLine then some (.lst ((bs.filter id).map P.bl)) else none := by
  unfold qTrues
  simp only [blsQ_map]
end VL
namespace DL
open PySem PySem.Spec PyProof.Rows L2 RT RZ
end DL
namespace VL
open PySem PySem.Spec PyProof.Rows L2 RT RZ DL
def qMaxD : List P → Option P
  | [p, .int d] => match lstOf p with
    | some ds => match intsP ds with
      | some is => some (.int (if is = [] then d else maxL is))
      | none => none
    | none => none
  | _ => none
@[simp] theorem qMaxD_2 (p : P) (d : Int) : qMaxD [p, .int d] = match lstOf p with
    | some ds => match intsP ds with
      | some is => some (.int (if is = [] then d else maxL is))
      | none => none
    | none => none := rfl
end VL
namespace VL
open PySem PySem.Spec PyProof.Rows L2 RT RZ DL
/-! ### l[k] += e, a list that its variable alone holds, whole numbers -/
def intQ : P → Option Int
  | .int i => some i
  | _ => none
/-- the place, the number there -/
def augQ (l : List P) (k : P) : Option (Int × Nat × Int) := match k with
  | .int i => match (atI l i).bind intQ with
    | some x => if 0 ≤ i then (ixN l.length i).map fun j => (i, j, x) else none
    | none => none
  | _ => none
def vAugI (i : Nat) (gi ge : PE → Tau → AP P) : PE → Tau → AnsV := fun pe τ => match pe[i]? with
  | some (some (.own l)) => bindSV (gi pe τ) pe fun k τ1 => match augQ l k with
    | some q => bindSV (ge pe τ1) pe fun y τ2 => match intQ y with
      | some y => some (.nx, pe.set i (some (.own (l.set q.2.1 (.int (q.2.2 + y))))), τ2)
      | none => none
    | none => none
  | _ => none
section
variable {pe : PE} {τ : Tau} {gi ge : PE → Tau → AP P} {R : OutP → PE → Tau → Prop}
@[simp ↓] theorem wp_augI (i : Nat) : WP (vAugI i gi ge) pe τ R = WO (ownAt pe i) fun l => WE gi pe τ (fun k τ1 => WO (augQ l k) fun q => WE ge pe τ1 (fun y τ2 => WO (intQ y) fun y => R .nx (pe.set i (some (.own (l.set q.2.1 (.int (q.2.2 + y)))))) τ2) (fun e τ1 => R (.ex e) pe τ1)) (fun e τ1 => R (.ex e) pe τ1) := by
  cases h : ownAt pe i with
  | none =>
    have h := ownAt_none h
    show WP _ pe τ R = False
    unfold WP vAugI
    split
    · rfl
    · rename_i e
      split at e
      · rename_i l hl
        exact absurd hl (h l)
      · cases e
  | some l =>
    have h := ownAt_some h
    have e : vAugI i gi ge pe τ = bindSV (gi pe τ) pe fun k τ1 => match augQ l k with
      | some q => bindSV (ge pe τ1) pe fun y τ2 => match intQ y with
        | some y => some (.nx, pe.set i (some (.own (l.set q.2.1 (.int (q.2.2 + y))))), τ2)
        | none => none
      | none => none := by
      unfold vAugI
      rw [h]
    rw [show WP (vAugI i gi ge) pe τ R = WP (fun _ _ => bindSV (gi pe τ) pe fun k τ1 => match augQ l k with
      | some q => bindSV (ge pe τ1) pe fun y τ2 => match intQ y with
        | some y => some (.nx, pe.set i (some (.own (l.set q.2.1 (.int (q.2.2 + y))))), τ2)
        | none => none
      | none => none) pe τ R by unfold WP; rw [e]]
    refine wp_bindS.trans (W.q fun k τ1 => ?_)
    cases hq : augQ l k with
    | none => rfl
    | some q =>
      refine wp_bindS.trans (W.q fun y τ2 => ?_)
      cases hy : intQ y with
      | none => rfl
      | some y => rfl
@[simp] theorem intQ_int (i : Int) : intQ (.int i) = some i := rfl
end
end VL
namespace VL
open PySem PySem.Spec PyProof.Rows L2 RT RZ DL
/-! ### a list of lists that is written -/
/-- lists within a list, all new, no two the same -/
def In2 (t : Nat) (B : Nat → Prop) (S : Sto) (n b : Nat) (l : List P) (ds : List D) : Prop :=
  ds.length = l.length ∧ (∀ (j : Nat) (q : P), l[j]? = some q → ∃ m lj es, q = .lst lj ∧ ds[j]? = some (.ref m) ∧ b ≤ m ∧ m ≠ n ∧ S[m]? = some (.lst es) ∧ Rds t S (fun k => B k ∧ k ≠ n ∧ ∀ y : Nat, ds[y]? ≠ some (.ref k)) lj es) ∧
    ∀ (j j' m : Nat), ds[j]? = some (.ref m) → ds[j']? = some (.ref m) → j = j'
/-- x = [[..] ..] -/
def vAsgO2 (i : Nat) (ge : PE → Tau → AP P) : PE → Tau → AnsV := fun pe τ => bindSV (ge pe τ) pe fun p τ1 => match p with
  | .lst l => some (.nx, pe.set i (some (.ow2 l)), τ1)
  | _ => none
def ow2P : P → Option (List P)
  | .ow2 l => some l
  | _ => none
def ow2At (pe : PE) (i : Nat) : Option (List P) := (pe[i]?.join).bind ow2P
/-- x[j][k] = .. -/
def vSetI2 (i : Nat) (ge gj gk : PE → Tau → AP P) : PE → Tau → AnsV := fun pe τ => bindSV (ge pe τ) pe fun p τ1 => match ow2At pe i with
  | none => none
  | some l => bindSV (gj pe τ1) pe fun a τ2 => match ixP l a with
    | none => none
    | some j => bindSV (gk pe τ2) pe fun k τ3 => if p.isOwn = true then none else match (l[j]?).bind lstP with
      | none => none
      | some lj => match ixP lj k with
        | none => none
        | some y => some (.nx, pe.set i (some (.ow2 (l.set j (.lst (lj.set y p))))), τ3)
/-- x[j].append(..) -/
def vAppend2 (i : Nat) (gj ge : PE → Tau → AP P) : PE → Tau → AnsV := fun pe τ => match ow2At pe i with
  | none => none
  | some l => bindSV (gj pe τ) pe fun a τ1 => match ixP l a with
    | none => none
    | some j => bindSV (ge pe τ1) pe fun p τ2 => if p.isOwn = true then none else match (l[j]?).bind lstP with
      | none => none
      | some lj => if lj.length < sizeLine then some (.nx, pe.set i (some (.ow2 (l.set j (.lst (lj ++ [p]))))), τ2) else none
/-- x.append([..]) -/
def vAppendF (i : Nat) (ge : PE → Tau → AP P) : PE → Tau → AnsV := fun pe τ => match ow2At pe i with
  | none => none
  | some l => bindSV (ge pe τ) pe fun p τ1 => match lstP p with
    | none => none
    | some lj => if l.length < sizeLine then some (.nx, pe.set i (some (.ow2 (l ++ [.lst lj]))), τ1) else none
section
variable {t s : Nat} {ns : List Int} {b : Nat} {A B : Nat → Prop} {o o' : Ow} {S S' : Sto} {env env' : Ev} {pe pe' : PE} {τ τ' : Tau} {fe fi fj fk : Ev → Sto → Ans D} {ge gi gj gk : PE → Tau → AP P}
/-- what stands at a place of a list of lists -/
theorem Rel.ow2 (h : Rel t b A o S env pe) (a : AdmS t s b A S) {i : Nat} {l : List P} (e : pe[i]? = some (some (.ow2 l))) : ∃ n ds, env[i]? = some (some (.ref n)) ∧ o (.v i) = some n ∧ S[n]? = some (.lst ds) ∧ ds.length = l.length ∧ n ≠ t ∧ n ≠ s ∧
    ∀ (j : Nat) (p : P), l[j]? = some p → ∃ m lj es, p = .lst lj ∧ ds[j]? = some (.ref m) ∧ o (.e i j) = some m ∧ S[m]? = some (.lst es) ∧ Rds t S (Av A o) lj es ∧ m ≠ t ∧ m ≠ s := by
  obtain ⟨d, h1, h2, h3⟩ := h.slot i _ e
  obtain ⟨n, rfl, k2⟩ := h3 rfl
  obtain ⟨n', ds, k3, k4, k5, k6, k7⟩ := h2
  cases k3
  refine ⟨n, ds, h1, k2, k5, k6, fun z => a.tape (z ▸ k4), by have := (h.own _ n k2).2.1; have := a.src; omega, fun j p ep => ?_⟩
  obtain ⟨m, lj, es, q1, q2, q3, q4, q5⟩ := k7 j p ep
  have e2 := h.in2 i l n ds j m e h1 k5 q2
  exact ⟨m, lj, es, q1, q2, e2, q4, q5, fun z => a.tape (z ▸ q3), by have := (h.own _ m e2).2.1; have := a.src; omega⟩
/-! a variable gets a new list of lists -/
/-! comprehensions whose items are new lists -/
theorem In2.lt {n c : Nat} {l : List P} {ds : List D} (q : In2 t B S n c l ds) {y m : Nat} (h : ds[y]? = some (.ref m)) : c ≤ m ∧ m ≠ n ∧ m < S.length := by
  have hy2 : y < l.length := by rw [← q.1]; exact (List.getElem?_eq_some_iff.mp h).1
  obtain ⟨m', lj, es, k1, k2, k3, k4, k5, k6⟩ := q.2.1 y _ (List.getElem?_eq_getElem hy2)
  rw [h] at k2
  cases k2
  exact ⟨k3, k4, lst_lt k5⟩
theorem In2.nil {n c : Nat} : In2 t B S n c [] [] := ⟨rfl, fun j q h => by simp at h, fun j j' m h => by simp at h⟩
theorem In2.fr {n c : Nat} {l : List P} {ds : List D} (q : In2 t B S n c l ds) (f : Fr t S S') (nt : ¬ B t) (tc : t < c) : In2 t B S' n c l ds := ⟨q.1, fun j p e => by
  obtain ⟨m', lj, es, k1, k2, k3, k4, k5, k6⟩ := q.2.1 j p e
  exact ⟨m', lj, es, k1, k2, k3, k4, f.get (by omega) k5, f.rds (fun z => nt z.1) k6⟩, q.2.2⟩
/-! x.append([..]) -/
end
/-! in weakest preconditions -/
section
variable {pe : PE} {τ : Tau} {fa fb fc : PE → Tau → AP P} {R : OutP → PE → Tau → Prop}
@[simp] theorem ow2P_ow2 (l : List P) : ow2P (.ow2 l) = some l := rfl
@[simp] theorem ow2At_def {i : Nat} : ow2At pe i = (pe[i]?.join).bind ow2P := rfl
@[simp] theorem own_ow2 (l : List P) : (P.ow2 l).isOwn = true := rfl
@[simp] theorem thaw_ow2 (l : List P) : (P.ow2 l).thaw = .lst l := rfl
@[simp ↓] theorem wp_asgO2 (i : Nat) : WP (vAsgO2 i fa) pe τ R = WE fa pe τ (fun p τ1 => WO (lstP p) fun l => R .nx (pe.set i (some (.ow2 l))) τ1) (fun e τ1 => R (.ex e) pe τ1) := by
  refine (wp_bs (e := fa) rfl).trans (W.q fun a τ1 => ?_)
  cases a <;> rfl
@[simp ↓] theorem wp_setI2 (i : Nat) : WP (vSetI2 i fa fb fc) pe τ R = WE fa pe τ (fun p τ1 => WO (ow2At pe i) fun l => WE fb pe τ1 (fun a τ2 => WO (ixP l a) fun j => WE fc pe τ2 (fun k τ3 => andP (p.isOwn = false) (WO ((l[j]?).bind lstP) fun lj => WO (ixP lj k) fun y => R .nx (pe.set i (some (.ow2 (l.set j (.lst (lj.set y p)))))) τ3)) (fun e τ3 => R (.ex e) pe τ3)) (fun e τ2 => R (.ex e) pe τ2)) (fun e τ1 => R (.ex e) pe τ1) := by
  refine (wp_bs (e := fa) rfl).trans (W.q fun p τ1 => ?_)
  cases h : ow2At pe i with
  | none => rfl
  | some l =>
    rw [wo_some]
    show WP (fun _ _ => bindSV (fb pe τ1) pe _) pe τ1 R = _
    rw [wp_bindS]
    show W _ _ _ = W _ _ _
    refine W.q fun a τ2 => ?_
    cases hx : ixP l a with
    | none => rfl
    | some j =>
      rw [wo_some]
      show WP (fun _ _ => bindSV (fc pe τ2) pe _) pe τ2 R = _
      rw [wp_bindS]
      show W _ _ _ = W _ _ _
      refine W.q fun k τ3 => ?_
      unfold andP WP
      by_cases h1 : p.isOwn = true
      · simp [h1]
      · simp only [if_neg h1]
        have h1' : p.isOwn = false := by simpa using h1
        simp only [h1', true_and]
        cases (l[j]?).bind lstP with
        | none => rfl
        | some lj =>
          rw [wo_some]
          cases hy : ixP lj k with
          | none => simp only [hy]; rfl
          | some y => simp only [hy]; rfl
@[simp ↓] theorem wp_append2 (i : Nat) : WP (vAppend2 i fb fa) pe τ R = WO (ow2At pe i) fun l => WE fb pe τ (fun a τ1 => WO (ixP l a) fun j => WE fa pe τ1 (fun p τ2 => andP (p.isOwn = false) (WO ((l[j]?).bind lstP) fun lj => andP (lj.length < sizeLine) (R .nx (pe.set i (some (.ow2 (l.set j (.lst (lj ++ [p])))))) τ2))) (fun e τ2 => R (.ex e) pe τ2)) (fun e τ1 => R (.ex e) pe τ1) := by
  cases h : ow2At pe i with
  | none => unfold WP vAppend2; rw [h]; rfl
  | some l =>
    rw [wo_some, wp_bs (e := fb) (k := fun a τ1 => match ixP l a with
    | none => none
    | some j => bindSV (fa pe τ1) pe fun p τ2 => if p.isOwn = true then none else match (l[j]?).bind lstP with
      | none => none
      | some lj => if lj.length < sizeLine then some (.nx, pe.set i (some (.ow2 (l.set j (.lst (lj ++ [p]))))), τ2) else none) (by unfold vAppend2; rw [h])]
    refine W.q fun a τ1 => ?_
    cases hx : ixP l a with
    | none => rfl
    | some j =>
      rw [wo_some]
      show WP (fun _ _ => bindSV (fa pe τ1) pe _) pe τ1 R = _
      rw [wp_bindS]
      show W _ _ _ = W _ _ _
      refine W.q fun p τ2 => ?_
      unfold andP WP
      by_cases h1 : p.isOwn = true
      · simp [h1]
      · simp only [if_neg h1]
        have h1' : p.isOwn = false := by simpa using h1
        simp only [h1', true_and]
        cases (l[j]?).bind lstP with
        | none => rfl
        | some lj =>
          rw [wo_some]
          by_cases h2 : lj.length < sizeLine
          · simp [h2]
          · simp [h2]
@[simp ↓] theorem wp_appendF (i : Nat) : WP (vAppendF i fa) pe τ R = WO (ow2At pe i) fun l => WE fa pe τ (fun p τ1 => WO (lstP p) fun lj => andP (l.length < sizeLine) (R .nx (pe.set i (some (.ow2 (l ++ [.lst lj])))) τ1)) (fun e τ1 => R (.ex e) pe τ1) := by
  cases h : ow2At pe i with
  | none => unfold WP vAppendF; rw [h]; rfl
  | some l =>
    rw [wo_some, wp_bs (e := fa) (k := fun p τ1 => match lstP p with
    | none => none
    | some lj => if l.length < sizeLine then some (.nx, pe.set i (some (.ow2 (l ++ [.lst lj]))), τ1) else none) (by unfold vAppendF; rw [h])]
    refine W.q fun p τ1 => ?_
    unfold andP WP
    cases lstP p with
    | none => rfl
    | some lj =>
      rw [wo_some]
      by_cases h2 : l.length < sizeLine
      · simp [h2]
      · simp [h2]
end
end VL
namespace DL
open PySem PySem.Spec PyProof.Rows L2 RT RZ
section
variable {X : Cx} {pins : List (Addr × Obj)} {σ : L2.St}
/-- a zip just made of two tuples -/
structure ZipNewL (h : Heap) (z TI TO i1 i2 l1 l2 : Addr) (xs ys : Array Value) : Prop where
  zip : IsZip h z TI TO .none
  out : PySem.IsPair h TO .none .none
  its : PySem.IsPair h TI (.ref i1) (.ref i2)
  it1 : h.IsListIter i1 l1 0
  it2 : h.IsListIter i2 l2 0
  tu1 : h.IsList l1 xs
  tu2 : h.IsList l2 ys
theorem ZipNewL.lt {h : Heap} {z TI TO i1 i2 l1 l2 : Addr} {xs ys : Array Value} (x : ZipNewL h z TI TO i1 i2 l1 l2 xs ys) : ∀ b ∈ [z, TI, TO, i1, i2, l1, l2], b < h.objs.size := fun b hb => by
  obtain ⟨h1, h2, h3, ⟨o1, h4, _⟩, ⟨o2, h5, _⟩, ⟨o3, h6, _⟩, ⟨o4, h7, _⟩⟩ := x
  simp only [List.mem_cons, List.not_mem_nil, or_false] at hb
  rcases hb with rfl | rfl | rfl | rfl | rfl | rfl | rfl
  all_goals first | exact Heap.lt_size h1 | exact Heap.lt_size h2 | exact Heap.lt_size h3 | exact Heap.lt_size h4 | exact Heap.lt_size h5 | exact Heap.lt_size h6 | exact Heap.lt_size h7
theorem ZipNewL.push {h : Heap} {z TI TO i1 i2 l1 l2 : Addr} {xs ys : Array Value} (x : ZipNewL h z TI TO i1 i2 l1 l2 xs ys) (o : Obj) : ZipNewL (h.push o) z TI TO i1 i2 l1 l2 xs ys :=
  ⟨Heap.get?_push_of_some _ x.zip, Heap.get?_push_of_some _ x.out, Heap.get?_push_of_some _ x.its, x.it1.at fun o e => Heap.get?_push_of_some _ e, x.it2.at fun o e => Heap.get?_push_of_some _ e, x.tu1.at fun o e => Heap.get?_push_of_some _ e, x.tu2.at fun o e => Heap.get?_push_of_some _ e⟩
end
end DL
namespace DL
open PySem PySem.Spec PyProof.Rows L2 RT RZ
/-! ### list(zip(a, b)) of two lists, as data -/
end DL
namespace VL
open PySem PySem.Spec PyProof.Rows L2 RT RZ DL
/-! ### list(zip(a, b)) in values -/
def lsO : P → Option (List P)
  | .lst l => some l
  | .own l => some l
  | _ => none
def pLZip (a b : P) : Option P := match lsO a, lsO b with
  | some xs, some ys => some (.lst (zipP xs ys))
  | _, _ => none
@[simp] theorem lsO_lst (l : List P) : lsO (.lst l) = some l := rfl
@[simp] theorem lsO_own (l : List P) : lsO (.own l) = some l := rfl
@[simp] theorem pLZip_ll (xs ys : List P) : pLZip (.lst xs) (.lst ys) = some (.lst (zipP xs ys)) := rfl
@[simp] theorem pLZip_lo (xs ys : List P) : pLZip (.lst xs) (.own ys) = some (.lst (zipP xs ys)) := rfl
@[simp] theorem pLZip_ol (xs ys : List P) : pLZip (.own xs) (.lst ys) = some (.lst (zipP xs ys)) := rfl
@[simp] theorem pLZip_oo (xs ys : List P) : pLZip (.own xs) (.own ys) = some (.lst (zipP xs ys)) := rfl
end VL
namespace DL
open PySem PySem.Spec PyProof.Rows L2 RT RZ
/-! ### defs that are called outside of every repr -/
structure FnG (P : Program) (w : World) (K : PySem.W.Frag) (mg : Str → Option Value) (base : Heap) (k : Nat) (f : Addr) (fd : FuncData) (ps : List Str) (sp : Sp) : Prop where
  len : ∀ xs H Q E, sp xs H Q E → xs.length = ps.length
  run : ∀ (B : Around) (fr : List Env) (t : Shared) (H : Hp) (ar : Args) (us : List Value) (xs : List V) (Q : VK) (E : XK), Room k B → B.guards = some [] → Env0 P w K mg base B fr t H → BindsTo t fd ar (ps.zip us) → Vals xs us → sp xs H Q E → codeAny (model P w) B (.call (.ref f) ar) (CR (L2N.CX P w) fr P w H t Q E) t
theorem FnG.imp {P : Program} {w : World} {K : PySem.W.Frag} {mg : Str → Option Value} {base : Heap} {k : Nat} {f : Addr} {fd : FuncData} {ps : List Str} {sp sp' : Sp} (F : FnG P w K mg base k f fd ps sp) (h : ∀ xs H Q E, sp' xs H Q E → sp xs H Q E) : FnG P w K mg base k f fd ps sp' :=
  ⟨fun xs H Q E q => F.len _ _ _ _ (h xs H Q E q), fun B fr t H ar us xs Q E hr hg he hb hv q => F.run B fr t H ar us xs Q E hr hg he hb hv (h xs H Q E q)⟩
section
variable {P : Program} {w : World} {K : PySem.W.Frag} {mg : Str → Option Value} {base : Heap}
theorem fn_bodyG {x qual : Str} {st : Stmt} {f : Addr} {fd : FuncData} {N ps : List Str} {k : Nat} {fb : Ev → Sto → AnsS} (F : Fun K x qual st f fd) (S : FnScope N ps (defScope st))
    (hb : ∀ (cdv : Value) (A : Around) (outer : List Env) (s : Shared) (H : Hp) (E : XK), Room k (A.deeper (envOfC qual (defScope st) s.heap.objs.size f cdv)) → (A.deeper (envOfC qual (defScope st) s.heap.objs.size f cdv)).guards = some [] → DSs (cxOf (L2N.CX P w) P w K mg base N qual (defScope st) f cdv A outer s H E) (XW E) (defBody st) fb) :
    FnG P w K mg base (k + 1) f fd ps (spM K mg (runB ps.length N.length fb)) := by
  obtain ⟨oc, od, _, _, _, _, cdv, _, osl, rfl, lk, hcd⟩ := F.ex
  have len : ∀ vs H Q E, spM K mg (runB ps.length N.length fb) vs H Q E → vs.length = ps.length := fun vs H Q E h => by
    obtain ⟨io, S, ds, r, S', rs, rv, hf, hE⟩ := h
    unfold runB at hf
    split at hf
    · rename_i hl
      rw [← hl, rv.length]
    · cases hf
  refine ⟨len, fun A outer s H args us vs Q E hr hgd e0 hbi r hsp => ?_⟩
  have hl := len _ _ _ _ hsp
  have KX : K.In s.heap := e0.mod.kin.keeps fun b o e => (e0.bs b o e).1
  have lm : s.heap.NoLimit := e0.mod.nolimit.keeps fun b o e => (e0.bs b o e).1
  have hkn : ∀ y ∈ ps.zip us, (defScope st).names.lookup y.1 = some .local ∨ ((defScope st).names.lookup y.1 = some .cell ∧ ((cellsFrom (s.heap.objs.size + 1) (defScope st).names []).lookup y.1).isSome = true) := fun ⟨n, v⟩ hy => (S.par n (List.of_mem_zip hy).1).elim .inl fun q => .inr ⟨q, PySem.W.cellsFrom_some _ _ _ (.inl q)⟩
  refine codeAny_call_function hr.depth (KX _ _ lk) rfl S.co S.gen rfl (PySem.W.codeRec_of KX hcd) (hbi _ _ _ _ ?_)
  refine wpAny_newFunctionEnv_cells S.kind hkn fun env he s1 x => ?_
  subst he
  refine ⟨lm.keeps x.toInCall.keep, codeAny_func ?_⟩
  have I : Inv (cxOf (L2N.CX P w) P w K mg base N qual (defScope st) f cdv A outer s H E) [] (L2.start N vs) H s1 := inv_start S hr.hd e0 hl r x
  obtain ⟨io, S0, ds, r0, S', rs, rv, hf, hE⟩ := hsp
  have start : tS K mg (XW E) fb { nx := fun _ H' => Q .non H', rt := Q } (L2.start N vs) H := by
    unfold runB at hf
    split at hf
    · rename_i hl
      have re : RE K io H (ds.map some ++ List.replicate (N.length - ps.length) none) (L2.start N vs) := by
        unfold L2.start
        rw [← rv.length, hl]
        exact RE.start rv _
      cases hb : fb (ds.map some ++ List.replicate (N.length - ps.length) none) S0 with
      | none => rw [hb] at hf; cases hf
      | some q =>
        obtain ⟨o, env', S1⟩ := q
        rw [hb] at hf
        cases o with
        | nx => cases hf; exact ⟨io, S0, _, .nx, env', _, rs, re, hb, fun io' H' σ' e rs' _ => hE io' H' .non e rs' (by simp [RV])⟩
        | rt d => cases hf; exact ⟨io, S0, _, .rt d, env', _, rs, re, hb, fun io' H' v e rs' rv => hE io' H' v e rs' rv⟩
        | ex x => cases hf; exact ⟨io, S0, _, .ex x, env', _, rs, re, hb, fun io1 H1 _ c dd e1 rs1 _ rx => hE io1 H1 c dd e1 rs1 rx⟩
        | bk => cases hf
        | ct => cases hf
    · cases hf
  refine wpAny_mono ((hb cdv A outer s H E (hr.deeper _) hgd).run [] s1 (L2.start N vs) H _ I start) (fun fl s' hs => ?_) fun e s' hs => hs
  have fin : ∀ {σ' : L2.St} {H' : Hp} {v : V} {u : Value}, Inv (cxOf (L2N.CX P w) P w K mg base N qual (defScope st) f cdv A outer s H E) [] σ' H' s' → RelV v u → Q v H' → CE outer P w H s Q u s' :=
    fun {σ' H' v u} J rv q => ⟨v, H', J.os, J.bare, J.base, J.hok, rv, q⟩
  cases fl with
  | ret u =>
    obtain ⟨v, σ', H', J, rv, q⟩ := hs
    exact fin J rv q
  | next =>
    obtain ⟨σ', H', J, q⟩ := hs
    exact fin (v := V.non) (u := Value.none) J rfl q
  | brk =>
    obtain ⟨_, _, _, q⟩ := hs
    exact False.elim q
  | cont =>
    obtain ⟨_, _, _, q⟩ := hs
    exact False.elim q
structure CalG (P : Program) (w : World) (K : PySem.W.Frag) (mg : Str → Option Value) (base : Heap) (x : Str) (k : Nat) (ps : List Str) (m : Mir) : Prop where
  ex : ∃ (f : Addr) (fd : FuncData), FnG P w K mg base k f fd ps (spM K mg m) ∧ mg x = some (.ref f) ∧ PySem.W.keepIn K (.ref f) = true ∧ Binds K fd ps []
theorem calG_mk {x q : Str} {st : Stmt} {f : Addr} {fd : FuncData} {k : Nat} {ps : List Str} {m : Mir} (F : Fun K x q st f fd) (g : mg x = some (.ref f)) (h : FnG P w K mg base k f fd ps (spM K mg m)) (b : Binds K fd ps []) : CalG P w K mg base x k ps m := ⟨f, fd, h, g, F.kp, b⟩
end
theorem d_calG {X : Cx} {W : WX} {x : Str} {k : Nat} {ps : List Str} {m : Mir} {p pos : Pos} {e : Expr} {es : List Expr} {fs : Ev → Sto → Ans (List D)} (C : CalG X.prog X.w X.K X.mg X.base x k ps m) (hr : Room k X.A) (hgd : X.A.guards = some []) (hg : Gl X x) (hx : ∀ σ, PassesAt (L2N.CX X.prog X.w) X σ (WE W σ)) (ha : DA X W (e :: es) fs) (hdb : (x == ("__debug__" : Str)) = false := by decide)
    (he : starEach (e :: es) X.env = (false, eval e X.env) :: starEach es X.env := by rfl) (hpl : (backTo pos (starEach es X.env)).any (·.1) = false := by rfl) : DE X W (.Call (.Name x p) (e :: es) [] pos) (dCall m fs) := by
  obtain ⟨f, fd, F, g, kp, b⟩ := C.ex
  have run : PE X (.Call (.Name x p) (e :: es) [] pos) (fun σ H Q => tMA X.K X.mg W fs σ H fun vs H1 => spM X.K X.mg m vs H1 Q (WE W σ)) := ⟨fun pins s σ H Q I q => by
    refine wpAny_Call_Name_kw (ld_glob I hg g ?_ hdb)
    refine PySem.W.callWith_K (h₀ := X.base) I.ok.mod.kin kp (thn (ha.run pos pins s σ H _ I q) fun us t ⟨vs, H2, J, r, w⟩ => ⟨J.kIn, ?_⟩) he hpl
    have ll : us.length = ps.length := r.length.symm.trans (F.len _ _ _ _ w)
    have bb := b t us J.kIn (by rw [List.append_nil]; exact ll)
    rw [List.append_nil] at bb
    exact call_ends (hx σ) J (F.run X.A X.stack t H2 _ _ _ Q (WE W σ) hr hgd J.env0 bb r w)⟩
  exact pe_weak run fun σ H Q ⟨io, S, env, r, S', rs, re, hf, hE⟩ =>
    tG_bind rs re hf hE fun ds S1 io1 H1 v e1 rs1 re1 rv1 h1 hE1 => ⟨io1, S1, ds, r, S', rs1, rv1, h1, hE1⟩
end DL
namespace DL
open PySem PySem.Spec PyProof.Rows L2 RT RZ
/-! ### the end for a law that is called outside of every repr -/
theorem law_callG {P : Program} {w : World} {K : PySem.W.Frag} {mg mb : Str → Option Value} {k : Nat} {fa p : Addr} {fd : FuncData} {x : Str} {sp : Sp} {u : Shared} {its : List Value} {zs : List Int} (KX : K.In u.heap) (gn : u.heap.Ns mainGlobals mg) (bn : u.heap.Ns builtinsNs mb) (bb : ∀ y : Str, y ≠ "__name__" → mb y = bootBuiltins y) (lm : u.heap.NoLimit) (g0 : u.gens = #[])
    (hp : u.heap.get? p = some { cls := .type "list", data := .seq its.toArray }) (hz : IntsAre its zs) (zl : zs.length ≤ sizeLine) (hr : Room k callerA) (F : ∀ base : Heap, K.In base → base.Ns mainGlobals mg → FnG P w K mg base k fa fd [x] sp) (hbi : ∀ (t : Shared) (v : Value), BindsTo t fd ⟨[v], []⟩ [(x, v)])
    (hs : ∀ H : Hp, Only H → SqL K H p (zs.map V.int) → sp [.ref p] H (fun v _ => v = .bl true) fun _ _ _ => False) :
    codeAny (model P w) callerA (.call (.ref fa) ⟨[.ref p], []⟩) (fun r t => r = .ok (.ret (.bool true)) ∧ OldK u.heap t.heap ∧ t.os = u.os ∧ AllBare t.gens) u := by
  have rz := vals_ints hz
  have zlen := hz.length
  have main : ∀ H : Hp, Only H → SqL K H p (zs.map V.int) → HOk P w H u.heap → (∀ b, H b ≠ none → b = p) → (H p ≠ none → K.lookup p = none) → codeAny (model P w) callerA (.call (.ref fa) ⟨[.ref p], []⟩) (fun r t => r = .ok (.ret (.bool true)) ∧ OldK u.heap t.heap ∧ t.os = u.os ∧ AllBare t.gens) u := by
    intro H oH sH okH aH kH
    have dictN : ∀ {b : Addr} {o : Obj} {es : Array DictEntry} {ep : Nat}, u.heap.get? b = some o → o.data = .dict es ep → H b = none := fun {b o es ep} e d => by
      cases q : H b with
      | none => rfl
      | some z =>
        obtain rfl := aH b (by rw [q]; simp)
        rw [hp] at e
        cases e
        cases (show Data.seq its.toArray _ = Data.dict es ep from d)
    have nsN : ∀ {b : Addr} {m : Str → Option Value}, u.heap.Ns b m → (hidT u.heap H).Ns b m := fun {b m} ⟨o, es, ep, e, d, r⟩ => ⟨o, es, ep, hidT_get e (dictN e d), d, r⟩
    have kB : K.In (hidT u.heap H) := fun b o e => hidT_get (KX b o e) (by
      cases q : H b with
      | none => rfl
      | some z =>
        obtain rfl := aH b (by rw [q]; simp)
        rw [kH (by rw [q]; simp)] at e
        cases e)
    have eM : Mod K mg (hidT u.heap H) := ⟨kB, nsN gn, ⟨mb, nsN bn, bb⟩, (let ⟨mc, h1, h2⟩ := lm; ⟨mc, nsN h1, h2⟩)⟩
    have e0 : Env0 P w K mg (hidT u.heap H) callerA [] u H := ⟨rfl, eM, fun b o e => of_hidT e, Nat.le_of_eq (hidT_size _ _), trivial, fun b hb => (by cases (show b ∈ ([] : List Addr) from hb)), okH, .of_eq g0⟩
    refine codeAny_mono ((F _ kB (nsN gn)).run callerA [] u H ⟨[.ref p], []⟩ [.ref p] [.ref p] _ _ hr rfl e0 (hbi u (.ref p)) (.cons rfl .nil) (hs H oH sH)) fun r t q => ?_
    match r, q with
    | .error e, q => exact (cxF q).elim
    | .ok .next, q => exact q.elim
    | .ok .brk, q => exact q.elim
    | .ok .cont, q => exact q.elim
    | .ok (.ret z), ⟨v, H', q1, q2, q3, q4, q5, q6⟩ =>
      have q6 : v = .bl true := q6
      subst q6
      obtain rfl : z = Value.bool true := q5
      refine ⟨rfl, OldK.of_keep fun b o e => ?_, q1, q2⟩
      cases q : H b with
      | none => exact q3.keep b o e q (by intro z; cases (show b ∈ ([] : List Addr) from z)) (by simp)
      | some z =>
        rcases oH b with y | ⟨ob, xs, y⟩
        · rw [q] at y; cases y
        · obtain ⟨e1, _⟩ := okH b _ y
          obtain ⟨e2, _⟩ := q4 b _ (q3.frzs b ob _ y)
          rw [e] at e1
          cases e1
          exact e2
  cases hk : K.lookup p with
  | some o =>
    have e := KX p o hk
    rw [hp] at e
    cases e
    exact main (fun _ => none) (fun _ => .inl rfl) (.inr ⟨_, its.toArray, _, hk, rfl, rfl, rfl, by rw [List.size_toArray, zlen]; exact zl, by simpa using rz⟩) (fun b z h => nomatch (show (none : Option HO) = some z from h)) (fun b z => absurd rfl z) fun z => absurd rfl z
  | none =>
    obtain ⟨H0, hH0⟩ : ∃ H0 : Hp, H0 = fun b => if b = p then some (.frz { cls := .type "list", data := .seq its.toArray } (.lst (zs.map V.int))) else none := ⟨_, rfl⟩
    have same : H0 p = some (.frz { cls := .type "list", data := .seq its.toArray } (.lst (zs.map V.int))) := by rw [hH0]; exact if_pos rfl
    have other : ∀ b, b ≠ p → H0 b = none := fun b hb => by rw [hH0]; exact if_neg hb
    refine main H0 (fun b => ?_) (.inl (.inr ⟨{ cls := .type "list", data := .seq its.toArray }, same⟩)) (fun b z h => ?_) (fun b z => ?_) fun _ => hk
    · by_cases hb : b = p
      · subst hb; exact .inr ⟨_, _, same⟩
      · exact .inl (other b hb)
    · by_cases hb : b = p
      · subst hb
        rw [same] at h
        cases h
        exact ⟨hp, by rw [List.length_map]; exact zl, its, _, rz, hp⟩
      · rw [other b hb] at h
        cases h
    · by_cases hb : b = p
      · exact hb
      · exact absurd (other b hb) z
theorem walk_ofG {l : PySem.W.OpenLaw} {n k : Nat} {q : Program} {loose : List Str} {XP : (Str → Option Value) → Heap → Prop} {YP : World → Heap → Prop} {d : DefRec} {K : Params → PySem.W.Frag} {sp : World → Sp} {x : Str} (hn : l.most = some n) (hn2 : n ≤ sizeLine) (hdf : d.params.defaults = []) (hr : Room k callerA) (hY : ∀ (w : World) (h : Heap), YP w h → (K w.params).In h)
    (F : ∀ (w : World) (mg : Str → Option Value) (fa : Addr) (h : Heap), (K w.params).In h → h.Ns mainGlobals mg → mg d.name = some (.ref fa) → ∃ fd : FuncData, (∀ (s : Shared) (u : Value), BindsTo s fd ⟨[u], []⟩ [(x, u)]) ∧ ∀ base : Heap, (K w.params).In base → base.Ns mainGlobals mg → FnG l.prog w (K w.params) mg base k fa fd [x] (sp w))
    (hsp : ∀ (w : World) (H : Hp) (a : Addr) (ns : List Int), ns.length ≤ n → (∀ z ∈ ns, Builtin.Int.intBits z ≤ 1048576) → Only H → SqL (K w.params) H a (ns.map V.int) → sp w [.ref a] H (fun v _ => v = .bl true) fun _ _ _ => False) : PySem.W.WalkO q loose XP YP l.row.toRowW d [] (fun f vs => PySem.call f vs) := by
  refine Att.attach_callB hn hdf fun w t0 t1 mg mb fa o pm cd doc a vs ns G Y ho hd hcd hmg hobj hints hlen hbits hg0 => ?_
  have KX := hY w _ Y
  obtain ⟨fd, hb, hF⟩ := F w mg fa _ KX G.T.g hmg
  exact law_callG KX G.T.g G.T.b G.T.builtins G.T.nolimit hg0 hobj hints (Nat.le_trans hlen hn2) hr hF hb fun H hO hS => hsp w H a ns hlen hbits hO hS
end DL
namespace DL
open PySem PySem.Spec PyProof.Rows L2 RT RZ
/-! ### repr(..) -/
def ReprOk (x : PyData) : Prop := x.showable = true ∧ x.hasDict = false ∧ x.depth ≤ 40 ∧ x.shown.length ≤ sizeLine
instance (x : PyData) : Decidable (ReprOk x) := by unfold ReprOk; infer_instance
def cRepr : List D → Sto → Option (D × Sto)
  | [d], S => match toPy S d with
    | some x => if ReprOk x then some (.str x.shown, S) else none
    | none => none
  | _, _ => none
theorem c_repr {X : Cx} (hgd : X.A.guards = some []) (hu : X.A.units + 64 < cLine) : CallD X (.builtin "repr") cRepr := by
  intro pins s σ H xs us Q I r h
  obtain ⟨io, S, ds, d, S', rs, rv, hg, q⟩ := h
  unfold cRepr at hg
  split at hg
  · split at hg
    · rename_i d0 x hx
      split at hg
      · rename_i ok
        cases hg
        obtain ⟨v, rfl, e⟩ := rvs1 rv
        obtain ⟨u, rfl, ru⟩ := vals1 r
        have dp := toPy_Dp rs e hx
        obtain ⟨as, rd⟩ := Dp.reads I x v u dp ru
        obtain ⟨o1, o2, o3, o4⟩ := ok
        have fin : ∀ (h' : Heap) (t tk : Nat), (∀ b o, s.heap.get? b = some o → h'.get? b = some o) → EP X pins σ Q (.str x.shown t) { s with heap := h', toks := tk } := fun h' t tk hk =>
          ⟨.str x.shown, H, I.kept (t' := tk) hk, ⟨t, rfl⟩, q io H _ Ext.refl rs mStr⟩
        cases rd with
        | none => exact PySem.P.repr_of_none (fin s.heap _ _ fun _ _ e => e)
        | bool b => exact PySem.P.repr_of_bool (fin s.heap _ _ fun _ _ e => e)
        | int i t =>
          have hi : i.natAbs.log2 < 1920 := by simpa [PyData.showable] using o1
          exact PySem.P.repr_of_int hi (fin s.heap _ _ fun _ _ e => e)
        | str y t => exact PySem.P.repr_of_str (fin s.heap _ _ fun _ _ e => e) (hsz := o4)
        | list h1 h2 h3 h4 => exact repr_of_reads' (h₀ := s.heap) (.list h1 h2 h3 h4) o1 (fun z => by rw [o2] at z; cases z) hgd (by omega) (fun _ _ e => e) fin o4
        | tuple h1 h2 h3 h4 => exact repr_of_reads' (h₀ := s.heap) (.tuple h1 h2 h3 h4) o1 (fun z => by rw [o2] at z; cases z) hgd (by omega) (fun _ _ e => e) fin o4
        | dict _ _ _ _ _ => cases o2
      · cases hg
    · cases hg
  · cases hg
end DL
namespace VL
open PySem PySem.Spec PyProof.Rows L2 RT RZ DL
def qRepr : List P → Option P
  | [p] => match pyT p with
    | some x => if ReprOk x then some (.str x.shown) else none
    | none => none
  | _ => none
theorem qRepr_of {p : P} {x : PyData} (h : pyT p = some x) (o : ReprOk x) : qRepr [p] = some (.str x.shown) := by
  unfold qRepr
  simp only [h]
  exact if_pos o
theorem cv_repr {t : Nat} : CallV t cRepr qRepr := fun A B S ps r ds ad h e => by
  unfold qRepr at e
  split at e
  · split at e
    · rename_i p x hx
      split at e
      · rename_i ok
        cases e
        obtain ⟨d, l, rfl, h1, h2⟩ := h
        cases h2
        refine ⟨.str x.shown, [], ?_, mStr'⟩
        unfold cRepr
        simp only [h1.pyT hx, if_pos ok, List.append_nil]
      · cases e
    · cases e
  · cases e
end VL
namespace DL
open PySem PySem.Spec PyProof.Rows L2 RT RZ
/-! ### a op b op' c, as a test -/
def dChn (g g' : D → D → Sto → Option (D × Sto)) (fa fb fc : Ev → Sto → Ans D) : Ev → Sto → Ans Bool := fun env S => bindR (fa env S) fun x S1 => bindR (fb env S1) fun y S2 => bindR (okO (g x y S2)) fun z S3 => bindR (okT (blOf z) S3) fun k S3 =>
  if k = true then bindR (fc env S3) fun w S4 => bindR (okO (g' y w S4)) fun z' S5 => okT (blOf z') S5 else some (.ok false, S3)
theorem dt_chain {X : Cx} {W : WX} {a b c : Expr} {pos : Pos} {op op' : CmpOp} {g g' : D → D → Sto → Option (D × Sto)} {fa fb fc : Ev → Sto → Ans D} (ho : OpD X (compareOp op) g) (ho' : OpD X (compareOp op') g') (ha : DE X W a fa) (hb : DE X W b fb) (hc : DE X W c fc)
    (hm : lastMarks [op, op'] [b, c] = false := by with_unfolding_all rfl) : DT X W (.Compare a [op, op'] [b, c] pos) (dChn g g' fa fb fc) := by
  refine pt_weak (pt_chain ho ho' ha hb hc hm) fun σ H Q ⟨io, S, env, r, S', rs, re, hf, hE⟩ => ?_
  refine tG_bind rs re hf hE fun x S1 io1 H1 v e1 rs1 re1 rv1 h1 hE1 => ?_
  refine tG_bind rs1 re1 h1 hE1 fun y S2 io2 H2 u e2 rs2 re2 rv2 h2 hE2 => ?_
  cases hg : g x y S2 with
  | none => rw [hg] at h2; cases h2
  | some q =>
    obtain ⟨z, S3⟩ := q
    rw [hg] at h2
    refine ⟨io2, S2, x, y, z, S3, rs2, RV.mono e2 _ _ rv1, rv2, hg, fun io3 H3 zv e3 rs3 rv3 => ?_⟩
    have h2 : bindR (okT (blOf z) S3) (fun k S3 => if k = true then bindR (fc env S3) fun w S4 => bindR (okO (g' y w S4)) fun z' S5 => okT (blOf z') S5 else some (.ok false, S3)) = some (r, S') := h2
    cases hz : blOf z with
    | none => rw [hz] at h2; cases h2
    | some k =>
      rw [hz] at h2
      cases z <;> first | (cases hz; done) | skip
      cases hz
      have hE3 := hE2.mono e3
      refine ⟨_, sBl rv3, ?_⟩
      have h2 : (if k = true then bindR (fc env S3) fun w S4 => bindR (okO (g' y w S4)) fun z' S5 => okT (blOf z') S5 else some (.ok false, S3)) = some (r, S') := h2
      cases k with
      | false =>
        cases h2
        exact ⟨false, rfl, hE3.now rs3 rfl⟩
      | true =>
        refine tG_bind rs3 (re2.mono e3) h2 hE3 fun w S4 io4 H4 wv e4 rs4 re4 rv4 h4 hE4 => ?_
        cases hg' : g' y w S4 with
        | none => rw [hg'] at h4; cases h4
        | some q =>
          obtain ⟨z', S5⟩ := q
          rw [hg'] at h4
          refine ⟨io4, S4, y, w, z', S5, rs4, RV.mono (e3.trans e4) _ _ rv2, rv4, hg', fun io5 H5 zv' e5 rs5 rv5 => ?_⟩
          have h4 : okT (blOf z') S5 = some (r, S') := h4
          obtain ⟨k', hk', rfl, rfl⟩ := okT_some h4
          cases z' <;> first | (cases hk'; done) | skip
          cases hk'
          exact ⟨_, sBl rv5, (hE4.mono e5).now rs5 rfl⟩
end DL
namespace VL
open PySem PySem.Spec PyProof.Rows L2 RT RZ DL
def vChn (h h' : P → P → Option P) (ga gb gc : PE → Tau → AP P) : PE → Tau → AP Bool := fun pe τ => bindV (ga pe τ) fun x τ1 => bindV (gb pe τ1) fun y τ2 => bindV (okV ((h x y).bind pBl) τ2) fun k τ2 => if k = true then bindV (gc pe τ2) fun w τ3 => okV ((h' y w).bind pBl) τ3 else some (.ok false, τ2)
section
variable {t s : Nat} {ns : List Int} {fa fb fc : Ev → Sto → Ans D} {ga gb gc : PE → Tau → AP P} {g g' : D → D → Sto → Option (D × Sto)} {h h' : P → P → Option P}
theorem vt_chn (o : OpV t g h) (o' : OpV t g' h') (ha : SimE t s ns fa ga) (hb : SimE t s ns fb gb) (hc : SimE t s ns fc gc) : SimT t s ns (dChn g g' fa fb fc) (vChn h h' ga gb gc) := fun A B S env pe τ a T r =>
  (ha A B S env pe τ a T r).bind fun x y S1 τ1 f1 T1 q1 => (hb A B S1 env pe τ1 (a.fr f1.len) T1 (r.fr f1 a)).bind fun x2 y2 S2 τ2 f2 T2 q2 => by
    have a1 := a.fr f1.len
    have a2 := a1.fr f2.len
    intro rr τ' e
    cases hh : h x x2 with
    | none => rw [hh] at e; cases e
    | some p =>
      obtain ⟨d, U, e1, e2⟩ := o A B S2 x x2 p y y2 a2 (f2.rdt a1 q1) q2 hh
      rw [hh] at e
      cases p <;> first | (cases e; done) | skip
      rename_i k
      obtain rfl : d = .bl k := by unfold Rd at e2; exact e2
      rw [e1]
      have fu : Fr t S2 (S2 ++ U) := Fr.app _ _
      have e : (if k = true then bindV (gc pe τ2) fun w τ3 => okV ((h' x2 w).bind pBl) τ3 else some (.ok false, τ2)) = some (rr, τ') := e
      show ∃ r' S', (if k = true then bindR (fc env (S2 ++ U)) fun w S4 => bindR (okO (g' y2 w S4)) fun z' S5 => okT (blOf z') S5 else some (.ok false, S2 ++ U)) = some (r', S') ∧ _
      cases k with
      | false =>
        cases e
        exact ⟨.ok false, _, rfl, fu, T2.app U, rfl⟩
      | true =>
        have main : Sim1 t s ns (fun _ (a b : Bool) => a = b) B (S2 ++ U) (bindR (fc env (S2 ++ U)) fun w S4 => bindR (okO (g' y2 w S4)) fun z' S5 => okT (blOf z') S5) (bindV (gc pe τ2) fun w τ3 => okV ((h' x2 w).bind pBl) τ3) :=
          (hc A B (S2 ++ U) env pe τ2 (a2.fr fu.len) (T2.app U) (((r.fr f1 a).fr f2 a1).fr fu a2)).bind fun w wd S3 τ3 f3 T3 q3 => by
            intro rr τ' e
            cases hh' : h' x2 w with
            | none => rw [hh'] at e; cases e
            | some p =>
              obtain ⟨d, V, e1, e2⟩ := o' A B S3 x2 w p y2 wd ((a2.fr fu.len).fr f3.len) (f3.rdt (a2.fr fu.len) (fu.rdt a2 q2)) q3 hh'
              rw [hh'] at e
              cases p <;> first | (cases e; done) | skip
              rename_i k
              obtain rfl : d = .bl k := by unfold Rd at e2; exact e2
              cases e
              rw [e1]
              exact ⟨.ok k, _, rfl, Fr.app _ _, T3.app V, rfl⟩
        obtain ⟨r', S', k1, k2, k3⟩ := main rr τ' e
        exact ⟨r', S', k1, fu.trans k2, k3⟩
end
section
variable {ga gb gc : PE → Tau → AP P} {h h' : P → P → Option P} {pe : PE} {τ : Tau} {QB : Bool → Tau → Prop} {E : XP → Tau → Prop}
@[simp ↓] theorem we_chn : WE (vChn h h' ga gb gc) pe τ QB E = WE ga pe τ (fun x τ1 => WE gb pe τ1 (fun y τ2 => WO ((h x y).bind pBl) fun k => iteP (k = true) (WE gc pe τ2 (fun w τ3 => WO ((h' y w).bind pBl) fun k' => QB k' τ3) E) (QB false τ2)) E) E := by
  show W (bindV _ _) _ _ = _
  exact w_bind.trans (W.q fun a τ1 => w_bind.trans (W.q fun b τ2 => w_bind.trans (w_okV.trans (WO.q fun c => w_ite.trans (by
    show iteP _ (W (bindV _ _) _ _) _ = _
    rw [w_bind]
    exact congrArg (fun z => iteP (c = true) z _) (W.q fun d τ3 => w_okV))))))
end
end VL
namespace LW
open PySem PySem.Spec PyProof.Rows L2 RT RZ DL
def topS (i : Nat) : Stmt := PySem.Challenge.pw_migraproof_k79_text_rows_in_order.main.body.getD i (.Pass ⟨0, 0, 0, 0⟩)
abbrev s_numbered_texts : Stmt := topS 1
abbrev N_numbered_texts : List Str := ["letter", "many", "but", "found", "number", "text"]
theorem sc_numbered_texts : FnScope N_numbered_texts ["letter", "many", "but"] (defScope s_numbered_texts) := ⟨rfl, rfl, rfl, by decide +kernel, rfl, by decide +kernel, by decide +kernel⟩
abbrev s_sample_texts : Stmt := topS 2
abbrev N_sample_texts : List Str := ["many", "but"]
theorem sc_sample_texts : FnScope N_sample_texts ["many", "but"] (defScope s_sample_texts) := ⟨rfl, rfl, rfl, by decide +kernel, rfl, by decide +kernel, by decide +kernel⟩
abbrev s_many_text_rows : Stmt := topS 8
abbrev N_many_text_rows : List Str := ["length", "columns", "many", "ways", "column", "longer", "shifted", "used", "number"]
theorem sc_many_text_rows : FnScope N_many_text_rows ["length", "columns", "many"] (defScope s_many_text_rows) := ⟨rfl, rfl, rfl, by decide +kernel, rfl, by decide +kernel, by decide +kernel⟩
abbrev s_with_text : Stmt := topS 9
abbrev N_with_text : List Str := ["rows", "texts", "samples", "left", "longer", "row", "used", "missing", "text"]
theorem sc_with_text : FnScope N_with_text ["rows", "texts", "samples", "left"] (defScope s_with_text) := ⟨rfl, rfl, rfl, by decide +kernel, rfl, by decide +kernel, by decide +kernel⟩
abbrev s_text_rows : Stmt := topS 10
abbrev N_text_rows : List Str := ["texts", "columns", "many", "count", "samples", "rows", "left", "row", "used"]
theorem sc_text_rows : FnScope N_text_rows ["texts", "columns", "many"] (defScope s_text_rows) := ⟨rfl, rfl, rfl, by decide +kernel, rfl, by decide +kernel, by decide +kernel⟩
abbrev s__law_tape : Stmt := topS 12
abbrev N__law_tape : List Str := ["_law_script", "_law_total", "_law_cell"]
theorem sc__law_tape : FnScope N__law_tape ["_law_script"] (defScope s__law_tape) := ⟨rfl, rfl, rfl, by decide +kernel, rfl, by decide +kernel, by decide +kernel⟩
abbrev s__law_draw : Stmt := topS 13
abbrev N__law_draw : List Str := ["_law_tape_here", "_law_many", "_law_place", "_law_number"]
theorem sc__law_draw : FnScope N__law_draw ["_law_tape_here", "_law_many"] (defScope s__law_draw) := ⟨rfl, rfl, rfl, by decide +kernel, rfl, by decide +kernel, by decide +kernel⟩
abbrev s__law_texts : Stmt := topS 14
abbrev N__law_texts : List Str := ["_law_tape_here", "_law_many", "_law_menu", "_law_found", "_law_k", "_law_number", "_law_text"]
theorem sc__law_texts : FnScope N__law_texts ["_law_tape_here", "_law_many"] (defScope s__law_texts) := ⟨rfl, rfl, rfl, by decide +kernel, rfl, by decide +kernel, by decide +kernel⟩
abbrev s__law_fresh : Stmt := topS 15
abbrev N__law_fresh : List Str := ["_law_sign", "_law_constants", "_law_many", "_law_texts_here", "_law_k", "_law_text"]
theorem sc__law_fresh : FnScope N__law_fresh ["_law_sign", "_law_constants", "_law_many"] (defScope s__law_fresh) := ⟨rfl, rfl, rfl, by decide +kernel, rfl, by decide +kernel, by decide +kernel⟩
abbrev s__law_same : Stmt := topS 16
abbrev N__law_same : List Str := ["_law_told_here", "_law_due"]
theorem sc__law_same : FnScope N__law_same ["_law_told_here", "_law_due"] (defScope s__law_same) := ⟨rfl, rfl, rfl, by decide +kernel, rfl, by decide +kernel, by decide +kernel⟩
abbrev s__law_ways : Stmt := topS 17
abbrev N__law_ways : List Str := ["_law_many", "_law_columns", "_law_ways_here", "_law_column", "_law_longer", "_law_j"]
theorem sc__law_ways : FnScope N__law_ways ["_law_many", "_law_columns"] (defScope s__law_ways) := ⟨rfl, rfl, rfl, by decide +kernel, rfl, by decide +kernel, by decide +kernel⟩
abbrev s__law_text_rows : Stmt := topS 18
abbrev N__law_text_rows : List Str := ["_law_texts_here", "_law_columns", "_law_many", "_law_fresh_here", "_law_rows", "_law_place", "_law_longer", "_law_pair", "_law_cells", "_law_k", "_law_used"]
theorem sc__law_text_rows : FnScope N__law_text_rows ["_law_texts_here", "_law_columns", "_law_many"] (defScope s__law_text_rows) := ⟨rfl, rfl, rfl, by decide +kernel, rfl, by decide +kernel, by decide +kernel⟩
abbrev s__law_told : Stmt := topS 19
abbrev N__law_told : List Str := ["_law_texts_here", "_law_columns", "_law_many", "e"]
theorem sc__law_told : FnScope N__law_told ["_law_texts_here", "_law_columns", "_law_many"] (defScope s__law_told) := ⟨rfl, rfl, rfl, by decide +kernel, rfl, by decide +kernel, by decide +kernel⟩
abbrev s_law : Stmt := topS 20
abbrev N_law : List Str := ["_law_script", "_law_tape_here", "_law_texts_here", "_law_columns", "_law_turn", "_law_many", "_law_number", "_law_told_here", "_law_k"]
theorem sc_law : FnScope N_law ["_law_script"] (defScope s_law) := ⟨rfl, rfl, rfl, by decide +kernel, rfl, by decide +kernel, by decide +kernel⟩
abbrev i_TooManyCases : Stmt := (DL.clsB (topS 5)).getD 0 (.Pass ⟨0, 0, 0, 0⟩)
noncomputable def m_numbered_texts : Ev → Sto → AnsS :=
    (sSeq (sAsg (.nm 3) (dCB gLst dNil))
    (sSeq (sAsg (.nm 4) (dC (.int 0)))
    (sSeq (sWhile fuel (dBl (dOp gLt (dCB cLen (dCons (dVar 3) dNil)) (dVar 1))) (sSeq (sAug 4 gIAdd (dC (.int 1)))
    (sSeq (sAsg (.nm 5) (dOp gAdd (dVar 0) (dCB cStr (dCons (dVar 4) dNil))))
    (sIf (dBl (dOp gNotIn (dVar 5) (dVar 2))) (sExpr (dM "list" mAppend (dVar 3) (dCons (dVar 5) dNil))) sNext))))
    (sRet (dCB cTuple (dCons (dVar 3) dNil))))))
noncomputable abbrev r_numbered_texts : Mir := runB 3 6 (m_numbered_texts)
noncomputable def m_sample_texts (f_numbered_texts : Mir) : Ev → Sto → AnsS :=
    (sRet (dCall f_numbered_texts (dCons (dC (.str (Str.ofString "v"))) (dCons (dVar 0) (dCons (dVar 1) dNil)))))
noncomputable abbrev r_sample_texts (f_numbered_texts : Mir) : Mir := runB 2 2 (m_sample_texts f_numbered_texts)
noncomputable def m_many_text_rows : Ev → Sto → AnsS :=
    (sSeq (sAsg (.nm 3) (dCB gLst (dCons (dC (.int 1)) dNil)))
    (sSeq (sFor (wRange (dCons (dVar 1) dNil)) (.nm 4) (sSeq (sAsg (.nm 5) (dOp gAdd (dVar 3) (dCB gLst (dCons (dC (.int 0)) dNil))))
    (sSeq (sAsg (.nm 6) (dOp gAdd (dCB gLst (dCons (dC (.int 0)) dNil)) (dVar 3)))
    (sAsg (.nm 3) (dLc (wEnumA (dCons (dVar 5) dNil)) (.tp [(.nm 7), (.nm 8)]) dTrue (dOp gAdd (dOp gMul (dOp gAdd (dVar 0) (dVar 7)) (dVar 8)) (dOp gIx (dVar 6) (dVar 7))) [7, 8])))))
    (sRet (dOp gIx (dVar 3) (dVar 2)))))
noncomputable abbrev r_many_text_rows : Mir := runB 3 9 (m_many_text_rows)
noncomputable def m_with_text : Ev → Sto → AnsS :=
    (sSeq (sAsg (.nm 4) (dCB gLst dNil))
    (sSeq (sFor (wSeq (dVar 0)) (.tp [(.nm 5), (.nm 6)]) (sSeq (sAsg (.nm 7) (dOp gSub (dCB cLen (dCons (dVar 2) dNil)) (dVar 6)))
    (sSeq (sIf (dBl (dOp gLe (dVar 7) (dVar 3))) (sFor (wSeq (dOp gAdd (dVar 1) (dSl (dVar 2) none (some (dVar 6))))) (.nm 8) (sExpr (dM "list" mAppend (dVar 4) (dCons (dCB gTup (dCons (dOp gAdd (dVar 5) (dCB gTup (dCons (dVar 8) dNil))) (dCons (dVar 6) dNil))) dNil)))) sNext)
    (sIf (dChn gLt gLe (dC (.int 0)) (dVar 7) (dOp gAdd (dVar 3) (dC (.int 1)))) (sExpr (dM "list" mAppend (dVar 4) (dCons (dCB gTup (dCons (dOp gAdd (dVar 5) (dCB gTup (dCons (dOp gIx (dVar 2) (dVar 6)) dNil))) (dCons (dOp gAdd (dVar 6) (dC (.int 1))) dNil))) dNil))) sNext))))
    (sRet (dVar 4))))
noncomputable abbrev r_with_text : Mir := runB 4 9 (m_with_text)
noncomputable def m_text_rows (f_with_text : Mir) (f_sample_texts : Mir) (f_many_text_rows : Mir) : Ev → Sto → AnsS :=
    (sSeq (sAsg (.nm 3) (dCall f_many_text_rows (dCons (dCB cLen (dCons (dVar 0) dNil)) (dCons (dVar 1) (dCons (dVar 2) dNil)))))
    (sSeq (sIf (dBl (dOp gGt (dVar 3) (dC (.int 300)))) (sRaise "TooManyCases" ["count"] (dCons (dVar 3) dNil)) sNext)
    (sSeq (sAsg (.nm 4) (dCallK f_sample_texts 1 1 (dCons (dVar 2) dNil) (dCons (dVar 0) dNil)))
    (sSeq (sAsg (.nm 5) (dCB gLst (dCons (dCB gTup (dCons (dCB gTup dNil) (dCons (dC (.int 0)) dNil))) dNil)))
    (sSeq (sFor (wRngR (dVar 1)) (.nm 6) (sAsg (.nm 5) (dCall f_with_text (dCons (dVar 5) (dCons (dVar 0) (dCons (dVar 4) (dCons (dVar 6) dNil)))))))
    (sRet (dCB cTuple (dCons (dLc (wSeq (dVar 5)) (.tp [(.nm 7), (.nm 8)]) dTrue (dVar 7) [7, 8]) dNil))))))))
noncomputable abbrev r_text_rows (f_with_text : Mir) (f_sample_texts : Mir) (f_many_text_rows : Mir) : Mir := runB 3 9 (m_text_rows f_with_text f_sample_texts f_many_text_rows)
noncomputable def m__law_tape : Ev → Sto → AnsS :=
    (sSeq (sAsg (.nm 1) (dC (.int 7)))
    (sSeq (sFor (wSeq (dVar 0)) (.nm 2) (sAsg (.nm 1) (dOp gMod (dCB cInt (dCons (dOp gAdd (dOp gMul (dVar 1) (dC (.int 31))) (dCB cAbs (dCons (dCB cInt (dCons (dVar 2) dNil)) dNil))) dNil)) (dC (.int 2147483647)))))
    (sRet (dCB gLst (dCons (dCB cList (dCons (dVar 0) dNil)) (dCons (dC (.int 0)) (dCons (dC (.int 0)) (dCons (dVar 1) dNil))))))))
noncomputable abbrev r__law_tape : Mir := runB 1 3 (m__law_tape)
noncomputable def m__law_draw : Ev → Sto → AnsS :=
    (sSeq (sIf (dBl (dOp gEq (dOp gIx (dVar 0) (dC (.int 2))) (dC (.int 0)))) (sSeq (sAsg (.nm 2) (dOp gIx (dVar 0) (dC (.int 1))))
    (sSeq (sAsg (.nm 3) (dC (.int 0)))
    (sSeq (sIf (dBl (dOp gLt (dVar 2) (dCB cLen (dCons (dOp gIx (dVar 0) (dC (.int 0))) dNil)))) (sAsg (.nm 3) (dCB cAbs (dCons (dCB cInt (dCons (dOp gIx (dOp gIx (dVar 0) (dC (.int 0))) (dVar 2)) dNil)) dNil))) (sSeq (sSub gSetL (dOp gMod (dCB cInt (dCons (dOp gAdd (dOp gAdd (dOp gMul (dOp gIx (dVar 0) (dC (.int 3))) (dC (.int 48271))) (dVar 2)) (dC (.int 1))) dNil)) (dC (.int 2147483647))) (dVar 0) (dC (.int 3)))
    (sAsg (.nm 3) (dOp gIx (dVar 0) (dC (.int 3))))))
    (sSeq (sSub gSetL (dOp gAdd (dVar 2) (dC (.int 1))) (dVar 0) (dC (.int 1)))
    (sSeq (sIf (dBl (dOp gLt (dVar 3) (dOp gPow (dC (.int 10)) (dC (.int 18))))) (sSeq (sAsg (.nm 3) (dOp gMod (dCB cInt (dCons (dOp gAdd (dOp gAdd (dOp gMul (dVar 3) (dC (.int 48271))) (dOp gMul (dVar 2) (dC (.int 69621)))) (dC (.int 5))) dNil)) (dC (.int 2147483647))))
    (sSeq (sAsg (.nm 3) (dOp gMod (dCB cInt (dCons (dOp gMul (dVar 3) (dC (.int 69621))) dNil)) (dC (.int 2147483629))))
    (sRet (dOp gMod (dCB cInt (dCons (dVar 3) dNil)) (dCB cMax2 (dCons (dVar 1) (dCons (dC (.int 1)) dNil))))))) sNext)
    (sSub gSetL (dVar 3) (dVar 0) (dC (.int 2)))))))) sNext)
    (sSeq (sAsg (.nm 3) (dOp gIx (dVar 0) (dC (.int 2))))
    (sSeq (sSub gSetL (dOp gFdiv (dVar 3) (dCB cMax2 (dCons (dVar 1) (dCons (dC (.int 2)) dNil)))) (dVar 0) (dC (.int 2)))
    (sRet (dOp gMod (dCB cInt (dCons (dVar 3) dNil)) (dCB cMax2 (dCons (dVar 1) (dCons (dC (.int 1)) dNil))))))))
noncomputable abbrev r__law_draw : Mir := runB 2 4 (m__law_draw)
noncomputable def m__law_texts (f__law_draw : Mir) : Ev → Sto → AnsS :=
    (sSeq (sAsg (.nm 2) (dCB gLst (dCons (dC (.str (Str.ofString ""))) (dCons (dC (.str (Str.ofString "v1"))) (dCons (dC (.str (Str.ofString "v2"))) (dCons (dC (.str (Str.ofString "c1"))) (dCons (dC (.str (Str.ofString "b"))) (dCons (dC (.str (Str.ofString "v3"))) (dCons (dC (.str (Str.ofString "x y"))) (dCons (dC (.str (Str.ofString "null"))) (dCons (dC (.str (Str.ofString "c2"))) (dCons (dC (.str (Str.ofString "V1"))) (dCons (dC (.str (Str.ofString "v10"))) (dCons (dC (.str (Str.ofString "p1"))) dNil))))))))))))))
    (sSeq (sAsg (.nm 3) (dCB gLst dNil))
    (sSeq (sFor (wRange (dCons (dVar 1) dNil)) (.nm 4) (sSeq (sAsg (.nm 5) (dCall f__law_draw (dCons (dVar 0) (dCons (dC (.int 480)) dNil))))
    (sSeq (sAsg (.nm 6) (dOp gIx (dVar 2) (dOp gMod (dCB cInt (dCons (dVar 5) dNil)) (dC (.int 12)))))
    (sSeq (sIf (dBl (dOp gEq (dOp gMod (dCB cInt (dCons (dOp gFdiv (dVar 5) (dC (.int 12))) dNil)) (dC (.int 3))) (dC (.int 0)))) (sAsg (.nm 6) (dOp gAdd (dSl (dVar 6) none (some (dC (.int 3)))) (dOp gMul (dOp gIx (dC (.str (Str.ofString "~A0z"))) (dOp gMod (dCB cInt (dCons (dOp gFdiv (dVar 5) (dC (.int 36))) dNil)) (dC (.int 4)))) (dOp gAdd (dC (.int 1)) (dCB cInt (dCons (dOp gFdiv (dVar 5) (dC (.int 144))) dNil)))))) sNext)
    (sSeq (sIf (dBl (dOp gIn (dVar 6) (dVar 3))) (sAsg (.nm 6) (dOp gAdd (dC (.str (Str.ofString "w"))) (dCB cStr (dCons (dVar 4) dNil)))) sNext)
    (sExpr (dM "list" mAppend (dVar 3) (dCons (dVar 6) dNil))))))))
    (sRet (dVar 3)))))
noncomputable abbrev r__law_texts (f__law_draw : Mir) : Mir := runB 2 7 (m__law_texts f__law_draw)
noncomputable def m__law_fresh : Ev → Sto → AnsS :=
    (sSeq (sAsg (.nm 3) (dLc (wRange (dCons (dOp gAdd (dVar 2) (dCB cLen (dCons (dVar 1) dNil))) dNil)) (.nm 4) dTrue (dOp gAdd (dVar 0) (dCB cStr (dCons (dOp gAdd (dVar 4) (dC (.int 1))) dNil))) [4]))
    (sRet (dSl (dLc (wSeq (dVar 3)) (.nm 5) (dBl (dOp gNotIn (dVar 5) (dVar 1))) (dVar 5) [5]) none (some (dVar 2)))))
noncomputable abbrev r__law_fresh : Mir := runB 3 6 (m__law_fresh)
noncomputable def m__law_same : Ev → Sto → AnsS :=
    (sSeq (sIf (dOr (dBl (dOp gNe (dIsi "tuple" (dVar 0)) (dIsi "tuple" (dVar 1)))) (dBl (dOp gNe (dIsi "bool" (dVar 0)) (dIsi "bool" (dVar 1))))) (sRet (dC (.bl false))) sNext)
    (sRet (dAndV (dOp gEq (dVar 0) (dVar 1)) (dOp gEq (dCB cRepr (dCons (dVar 0) dNil)) (dCB cRepr (dCons (dVar 1) dNil))))))
noncomputable abbrev r__law_same : Mir := runB 2 2 (m__law_same)
noncomputable def m__law_ways : Ev → Sto → AnsS :=
    (sSeq (sAsg (.nm 2) (dCB gLst (dCons (dC (.int 1)) dNil)))
    (sSeq (sFor (wRange (dCons (dVar 1) dNil)) (.nm 3) (sSeq (sAsg (.nm 4) (dOp gAdd (dCB gLst (dCons (dC (.int 0)) dNil)) (dVar 2)))
    (sSeq (sFor (wRange (dCons (dCB cLen (dCons (dVar 2) dNil)) dNil)) (.nm 5) (sSub gSetL (dOp gAdd (dOp gIx (dVar 4) (dVar 5)) (dOp gMul (dOp gAdd (dVar 0) (dVar 5)) (dOp gIx (dVar 2) (dVar 5)))) (dVar 4) (dVar 5)))
    (sAsg (.nm 2) (dVar 4)))))
    (sRet (dVar 2))))
noncomputable abbrev r__law_ways : Mir := runB 2 6 (m__law_ways)
noncomputable def m__law_text_rows (f__law_fresh : Mir) : Ev → Sto → AnsS :=
    (sSeq (sAsg (.nm 3) (dCall f__law_fresh (dCons (dC (.str (Str.ofString "v"))) (dCons (dVar 0) (dCons (dOp gAdd (dVar 2) (dC (.int 1))) dNil)))))
    (sSeq (sAsg (.nm 4) (dCB gLst (dCons (dCB gTup (dCons (dCB gTup dNil) (dCons (dC (.int 0)) dNil))) dNil)))
    (sSeq (sFor (wRange (dCons (dVar 1) dNil)) (.nm 5) (sSeq (sAsg (.nm 6) (dCB gLst dNil))
    (sSeq (sFor (wSeq (dCB cList (dCons (dVar 4) dNil))) (.nm 7) (sSeq (sAsg (.nm 8) (dOp gAdd (dCB cList (dCons (dVar 0) dNil)) (dSl (dVar 3) none (some (dOp gAdd (dOp gIx (dVar 7) (dC (.int 1))) (dC (.int 1)))))))
    (sFor (wRange (dCons (dCB cLen (dCons (dVar 8) dNil)) dNil)) (.nm 9) (sSeq (sAsg (.nm 10) (dOp gAdd (dOp gIx (dVar 7) (dC (.int 1))) (dCB cInt (dCons (dOp gEq (dVar 9) (dOp gSub (dCB cLen (dCons (dVar 8) dNil)) (dC (.int 1)))) dNil))))
    (sIf (dAnd (dBl (dOp gLe (dVar 10) (dVar 2))) (dBl (dOp gGe (dOp gSub (dOp gSub (dOp gAdd (dVar 10) (dVar 1)) (dVar 5)) (dC (.int 1))) (dVar 2)))) (sExpr (dM "list" mAppend (dVar 6) (dCons (dCB gTup (dCons (dOp gAdd (dOp gIx (dVar 7) (dC (.int 0))) (dCB gTup (dCons (dOp gIx (dVar 8) (dVar 9)) dNil))) (dCons (dVar 10) dNil))) dNil))) sNext)))))
    (sAsg (.nm 4) (dVar 6)))))
    (sRet (dLc (wSeq (dVar 4)) (.nm 7) dTrue (dOp gIx (dVar 7) (dC (.int 0))) [7])))))
noncomputable abbrev r__law_text_rows (f__law_fresh : Mir) : Mir := runB 3 11 (m__law_text_rows f__law_fresh)
noncomputable def m__law_told (f_text_rows : Mir) : Ev → Sto → AnsS :=
    (sTry (sRet (dCall f_text_rows (dCons (dVar 0) (dCons (dVar 1) (dCons (dVar 2) dNil))))) [⟨[("TooManyCases", true)], some 3, (sRet (dCB gTup (dCons (dC (.str (Str.ofString "many"))) (dCons (dXf ["TooManyCases"] "count" (dVar 3)) (dCons (dAndV (dXi [("TooManyCases", true)] (dVar 3)) (dXi [("TooManyCases", true)] (dVar 3))) dNil)))))⟩])
noncomputable abbrev r__law_told (f_text_rows : Mir) : Mir := runB 3 4 (m__law_told f_text_rows)
noncomputable def m_law (f__law_same : Mir) (f__law_text_rows : Mir) (f__law_told : Mir) (f_many_text_rows : Mir) (f__law_ways : Mir) (f__law_draw : Mir) (f__law_texts : Mir) (f__law_tape : Mir) : Ev → Sto → AnsS :=
    (sSeq (sAsg (.nm 1) (dCall f__law_tape (dCons (dVar 0) dNil)))
    (sSeq (sAsg (.nm 2) (dCall f__law_texts (dCons (dVar 1) (dCons (dCall f__law_draw (dCons (dVar 1) (dCons (dC (.int 5)) dNil))) dNil))))
    (sSeq (sAsg (.nm 3) (dOp gIx (dCB gLst (dCons (dC (.int 0)) (dCons (dC (.int 1)) (dCons (dC (.int 1)) (dCons (dC (.int 2)) (dCons (dC (.int 2)) (dCons (dC (.int 3)) (dCons (dC (.int 4)) (dCons (dOp gAdd (dC (.int 5)) (dCall f__law_draw (dCons (dVar 1) (dCons (dC (.int 4)) dNil)))) dNil))))))))) (dCall f__law_draw (dCons (dVar 1) (dCons (dC (.int 8)) dNil)))))
    (sSeq (sIf (dBl (dOp gEq (dCall f__law_draw (dCons (dVar 1) (dCons (dC (.int 4)) dNil))) (dC (.int 0)))) (sAsg (.nm 2) (dOp gAdd (dVar 2) (dLc (wRange (dCons (dCall f__law_draw (dCons (dVar 1) (dCons (dOp gSub (dC (.int 301)) (dCB cLen (dCons (dVar 2) dNil))) dNil))) dNil)) (.nm 8) dTrue (dOp gAdd (dC (.str (Str.ofString "s"))) (dCB cStr (dCons (dVar 8) dNil))) [8]))) sNext)
    (sSeq (sFor (wRange (dCons (dC (.int 8)) dNil)) (.nm 4) (sIf (dBl (dOp gGt (dCB cSum (dCons (dCall f__law_ways (dCons (dCB cLen (dCons (dVar 2) dNil)) (dCons (dVar 3) dNil))) dNil)) (dC (.int 100000)))) (sAsg (.nm 3) (dOp gSub (dVar 3) (dC (.int 1)))) sNext))
    (sSeq (sAsg (.nm 5) (dCall f__law_draw (dCons (dVar 1) (dCons (dOp gAdd (dVar 3) (dC (.int 1))) dNil))))
    (sSeq (sAsg (.nm 6) (dOp gIx (dCall f__law_ways (dCons (dCB cLen (dCons (dVar 2) dNil)) (dCons (dVar 3) dNil))) (dVar 5)))
    (sSeq (sAsg (.nm 7) (dCall f_many_text_rows (dCons (dCB cLen (dCons (dVar 2) dNil)) (dCons (dVar 3) (dCons (dVar 5) dNil)))))
    (sSeq (sIf (dOr (dNot (dTru (dIsi "int" (dVar 7)))) (dOr (dTru (dIsi "bool" (dVar 7))) (dBl (dOp gNe (dVar 7) (dVar 6))))) (sRet (dC (.bl false))) sNext)
    (sSeq (sIf (dBl (dOp gGt (dVar 6) (dC (.int 300)))) (sRet (dCall f__law_same (dCons (dCall f__law_told (dCons (dCB cTuple (dCons (dVar 2) dNil)) (dCons (dVar 3) (dCons (dVar 5) dNil)))) (dCons (dCB gTup (dCons (dC (.str (Str.ofString "many"))) (dCons (dVar 6) (dCons (dC (.bl true)) dNil)))) dNil)))) sNext)
    (sRet (dCall f__law_same (dCons (dCall f__law_told (dCons (dCB cTuple (dCons (dVar 2) dNil)) (dCons (dVar 3) (dCons (dVar 5) dNil)))) (dCons (dCB cTuple (dCons (dCall f__law_text_rows (dCons (dVar 2) (dCons (dVar 3) (dCons (dVar 5) dNil)))) dNil)) dNil))))))))))))))
noncomputable abbrev r_law (f__law_same : Mir) (f__law_text_rows : Mir) (f__law_told : Mir) (f_many_text_rows : Mir) (f__law_ways : Mir) (f__law_draw : Mir) (f__law_texts : Mir) (f__law_tape : Mir) : Mir := runB 1 9 (m_law f__law_same f__law_text_rows f__law_told f_many_text_rows f__law_ways f__law_draw f__law_texts f__law_tape)
noncomputable def F_numbered_texts : Mir := r_numbered_texts
noncomputable def F_sample_texts : Mir := r_sample_texts F_numbered_texts
noncomputable def F_many_text_rows : Mir := r_many_text_rows
noncomputable def F_with_text : Mir := r_with_text
noncomputable def F_text_rows : Mir := r_text_rows F_with_text F_sample_texts F_many_text_rows
noncomputable def F__law_tape : Mir := r__law_tape
noncomputable def F__law_draw : Mir := r__law_draw
noncomputable def F__law_texts : Mir := r__law_texts F__law_draw
noncomputable def F__law_fresh : Mir := r__law_fresh
noncomputable def F__law_same : Mir := r__law_same
noncomputable def F__law_ways : Mir := r__law_ways
noncomputable def F__law_text_rows : Mir := r__law_text_rows F__law_fresh
noncomputable def F__law_told : Mir := r__law_told F_text_rows
noncomputable abbrev F_law : Mir := r_law F__law_same F__law_text_rows F__law_told F_many_text_rows F__law_ways F__law_draw F__law_texts F__law_tape
structure Txt (P : Program) (w : World) (K : PySem.W.Frag) (mg : Str → Option Value) : Prop where
  n_tuple : mg "tuple" = none
  n_len : mg "len" = none
  n_str : mg "str" = none
  n_range : mg "range" = none
  n_enumerate : mg "enumerate" = none
  n_reversed : mg "reversed" = none
  n_list : mg "list" = none
  n_int : mg "int" = none
  n_abs : mg "abs" = none
  n_max : mg "max" = none
  n_repr : mg "repr" = none
  n_isinstance : mg "isinstance" = none
  n_bool : mg "bool" = none
  n_ValueError : mg "ValueError" = none
  n_sum : mg "sum" = none
  n_super : mg "super" = none
  g_MOST_CASES : GlobD K mg "MOST_CASES" (.int 300)
  ec_TooManyCases : RaiseC P w K mg "TooManyCases" ["count"]
  kc_TooManyCases : CatchC K mg "TooManyCases" [("TooManyCases", true)]
  xf_count : XfT K ["TooManyCases"] "count"
  ig_MigrationError : IsG K mg "MigrationError" [("TooManyCases", true)]
  ib_ValueError : IsB K "ValueError" [("TooManyCases", true)]
section
variable {P : Program} {w : World} {K : PySem.W.Frag} {mg : Str → Option Value} {base : Heap}
set_option maxHeartbeats 4000000 in
theorem ok_numbered_texts (T : Txt P w K mg) {a : Addr} {fd : FuncData} (F : Fun K "numbered_texts" "numbered_texts" s_numbered_texts a fd) : FnOk P w K mg base (L2N.CX P w) 1 a fd ["letter", "many", "but"] (spM K mg (r_numbered_texts)) :=
  fn_body (N := N_numbered_texts) F sc_numbered_texts fun cdv A outer s H E hr =>
      (dss_cons (ds_set (i := 3) sc_numbered_texts.nd rfl (Or.inl rfl) (d_lst da_nil))
      (dss_cons (ds_set (i := 4) sc_numbered_texts.nd rfl (Or.inl rfl) d_int)
      (dss_cons (ds_while fuel (passes_of rfl) (dt_cmp o_lt (d_callB c_len (by rfl) T.n_len (by decide +kernel) (da_cons (d_var 3) da_nil)) (d_var 1) (nomark _)) (dss_cons (ds_aug (i := 4) sc_numbered_texts.nd rfl (Or.inl rfl) o_iadd d_int)
      (dss_cons (ds_set (i := 5) sc_numbered_texts.nd rfl (Or.inl rfl) (d_op o_add (d_var 0) (d_callTy c_str (by rfl) T.n_str (by decide +kernel) (da_cons (d_var 4) da_nil))))
      (dss_one (ds_if (dt_cmp o_notin (d_var 5) (d_var 2) (by rfl)) (dss_one (ds_expr (d_m PySem.F.plainAttrs_list PySem.F.slot_list_append PySem.F.type_list_append m_append (d_var 3) (da_cons (d_var 5) da_nil)))) dss_nil)))))
      (dss_one (ds_ret (d_callTy c_tuple (by rfl) T.n_tuple (by decide +kernel) (da_cons (d_var 3) da_nil)))))))
set_option maxHeartbeats 4000000 in
theorem ok_sample_texts (T : Txt P w K mg) {f_numbered_texts : Mir} (C_numbered_texts : Cal P w K mg base "numbered_texts" 1 ["letter", "many", "but"] f_numbered_texts) {a : Addr} {fd : FuncData} (F : Fun K "sample_texts" "sample_texts" s_sample_texts a fd) : FnOk P w K mg base (L2N.CX P w) 2 a fd ["many", "but"] (spM K mg (r_sample_texts f_numbered_texts)) :=
  fn_body (N := N_sample_texts) F sc_sample_texts fun cdv A outer s H E hr =>
      (dss_one (ds_ret (d_cal C_numbered_texts (hr.mono (by decide)) (by rfl) passX (da_cons d_str (da_cons (d_var 0) (da_cons (d_var 1) da_nil))))))
set_option maxHeartbeats 4000000 in
theorem ok_many_text_rows (T : Txt P w K mg) {a : Addr} {fd : FuncData} (F : Fun K "many_text_rows" "many_text_rows" s_many_text_rows a fd) : FnOk P w K mg base (L2N.CX P w) 1 a fd ["length", "columns", "many"] (spM K mg (r_many_text_rows)) :=
  fn_body (N := N_many_text_rows) F sc_many_text_rows fun cdv A outer s H E hr =>
      (dss_cons (ds_set (i := 3) sc_many_text_rows.nd rfl (Or.inl rfl) (d_lst (da_cons d_int da_nil)))
      (dss_cons (ds_for (passes_of rfl) rfl (di_range1 (by rfl) T.n_range (da_cons (d_var 1) da_nil) (len_cons len_nil)) (dg_name (i := 4) sc_many_text_rows.nd rfl (Or.inl rfl)) (dss_cons (ds_set (i := 5) sc_many_text_rows.nd rfl (Or.inl rfl) (d_op o_add (d_var 3) (d_lst (da_cons d_int da_nil))))
      (dss_cons (ds_set (i := 6) sc_many_text_rows.nd rfl (Or.inr rfl) (d_op o_add (d_lst (da_cons d_int da_nil)) (d_var 3)))
      (dss_one (ds_setLc (i := 3) (own := [("used", 7), ("number", 8)]) (t := (.tp [(.nm 7), (.nm 8)])) (by rfl) sc_many_text_rows.nd (by rfl) rfl (sw_true rfl rfl rfl (by decide +kernel)) (di_enumA (by rfl) T.n_enumerate (da_cons (d_var 5) da_nil) (len_cons len_nil)) (blkOk_by (own := [("used", 7), ("number", 8)]) (N := N_many_text_rows) (sc := defScope s_many_text_rows) (by decide +kernel)) (fun _ _ _ _ _ => (dg_tup rfl (dgs_cons (dg_name (i := 7) sc_many_text_rows.nd rfl (Or.inl rfl)) (dgs_cons (dg_name (i := 8) sc_many_text_rows.nd rfl (Or.inl rfl)) dgs_nil)))) (fun _ _ _ _ _ => dts_nil) (fun _ _ _ _ _ => (d_op o_add (d_op o_mul (d_op o_add (d_var 0) (d_var 7)) (d_var 8)) (d_ix i_ix (d_var 6) (d_var 7) (fun _ _ => rfl)))) (by decide))))))
      (dss_one (ds_ret (d_ix i_ix (d_var 3) (d_var 2) (fun _ _ => rfl))))))
set_option maxHeartbeats 4000000 in
theorem ok_with_text (T : Txt P w K mg) {a : Addr} {fd : FuncData} (F : Fun K "with_text" "with_text" s_with_text a fd) : FnOk P w K mg base (L2N.CX P w) 1 a fd ["rows", "texts", "samples", "left"] (spM K mg (r_with_text)) :=
  fn_body (N := N_with_text) F sc_with_text fun cdv A outer s H E hr =>
      (dss_cons (ds_set (i := 4) sc_with_text.nd rfl (Or.inl rfl) (d_lst da_nil))
      (dss_cons (ds_for (passes_of rfl) rfl (di_seq (d_var 0)) (dg_tup rfl (dgs_cons (dg_name (i := 5) sc_with_text.nd rfl (Or.inl rfl)) (dgs_cons (dg_name (i := 6) sc_with_text.nd rfl (Or.inl rfl)) dgs_nil))) (dss_cons (ds_set (i := 7) sc_with_text.nd rfl (Or.inl rfl) (d_op o_sub (d_callB c_len (by rfl) T.n_len (by decide +kernel) (da_cons (d_var 2) da_nil)) (d_var 6)))
      (dss_cons (ds_if (dt_cmp o_le (d_var 7) (d_var 3) (nomark _)) (dss_one (ds_for (passes_of rfl) rfl (di_seq (d_op o_add (d_var 1) (d_slice (d_var 2) do_none (do_some (d_var 6))))) (dg_name (i := 8) sc_with_text.nd rfl (Or.inl rfl)) (dss_one (ds_expr (d_m PySem.F.plainAttrs_list PySem.F.slot_list_append PySem.F.type_list_append m_append (d_var 4) (da_cons (d_tup (da_cons (d_op o_add (d_var 5) (d_tup (da_cons (d_var 8) da_nil))) (da_cons (d_var 6) da_nil))) da_nil)))))) dss_nil)
      (dss_one (ds_if (dt_chain o_lt o_le d_int (d_var 7) (d_op o_add (d_var 3) d_int)) (dss_one (ds_expr (d_m PySem.F.plainAttrs_list PySem.F.slot_list_append PySem.F.type_list_append m_append (d_var 4) (da_cons (d_tup (da_cons (d_op o_add (d_var 5) (d_tup (da_cons (d_ix i_ix (d_var 2) (d_var 6) (fun _ _ => rfl)) da_nil))) (da_cons (d_op o_add (d_var 6) d_int) da_nil))) da_nil)))) dss_nil)))))
      (dss_one (ds_ret (d_var 4)))))
set_option maxHeartbeats 4000000 in
theorem ok_text_rows (T : Txt P w K mg) {f_with_text : Mir} (C_with_text : Cal P w K mg base "with_text" 1 ["rows", "texts", "samples", "left"] f_with_text) {f_sample_texts : Mir} (CK_sample_texts : CalK P w K mg base "sample_texts" 2 ["many", "but"] f_sample_texts 1 ["but"]) {f_many_text_rows : Mir} (C_many_text_rows : Cal P w K mg base "many_text_rows" 1 ["length", "columns", "many"] f_many_text_rows) {a : Addr} {fd : FuncData} (F : Fun K "text_rows" "text_rows" s_text_rows a fd) : FnOk P w K mg base (L2N.CX P w) 3 a fd ["texts", "columns", "many"] (spM K mg (r_text_rows f_with_text f_sample_texts f_many_text_rows)) :=
  fn_body (N := N_text_rows) F sc_text_rows fun cdv A outer s H E hr =>
      (dss_cons (ds_set (i := 3) sc_text_rows.nd rfl (Or.inl rfl) (d_cal C_many_text_rows (hr.mono (by decide)) (by rfl) passX (da_cons (d_callB c_len (by rfl) T.n_len (by decide +kernel) (da_cons (d_var 0) da_nil)) (da_cons (d_var 1) (da_cons (d_var 2) da_nil)))))
      (dss_cons (ds_if (dt_cmp o_gt (d_var 3) (d_glob (by rfl) T.g_MOST_CASES) (nomark _)) (dss_one (ds_raise rfl (L2N.takes_of rfl rfl rfl rfl) T.ec_TooManyCases hr (by rfl) (da_cons (d_var 3) da_nil))) dss_nil)
      (dss_cons (ds_set (i := 4) sc_text_rows.nd rfl (Or.inl rfl) (d_calK CK_sample_texts (hr.mono (by decide)) (by rfl) passX (da_cons (d_var 2) da_nil) (dk_cons (d_var 0) dk_nil)))
      (dss_cons (ds_set (i := 5) sc_text_rows.nd rfl (Or.inl rfl) (d_lst (da_cons (d_tup (da_cons (d_tup da_nil) (da_cons d_int da_nil))) da_nil)))
      (dss_cons (ds_for (passes_of rfl) rfl (di_rngR (by rfl) T.n_reversed (by rfl) T.n_range (d_var 1)) (dg_name (i := 6) sc_text_rows.nd rfl (Or.inl rfl)) (dss_one (ds_set (i := 5) sc_text_rows.nd rfl (Or.inl rfl) (d_cal C_with_text (hr.mono (by decide)) (by rfl) passX (da_cons (d_var 5) (da_cons (d_var 0) (da_cons (d_var 4) (da_cons (d_var 6) da_nil))))))))
      (dss_one (ds_ret (d_callTy c_tuple (by rfl) T.n_tuple (by decide +kernel) (da_cons (d_lc (own := [("row", 7), ("used", 8)]) (t := (.tp [(.nm 7), (.nm 8)])) (by rfl) sc_text_rows.nd (di_seq (d_var 5)) (blkOk_by (own := [("row", 7), ("used", 8)]) (N := N_text_rows) (sc := defScope s_text_rows) (by decide +kernel)) (fun _ _ _ _ _ => (dg_tup rfl (dgs_cons (dg_name (i := 7) sc_text_rows.nd rfl (Or.inl rfl)) (dgs_cons (dg_name (i := 8) sc_text_rows.nd rfl (Or.inl rfl)) dgs_nil)))) (fun _ _ _ _ _ => dts_nil) (fun _ _ _ _ _ => (d_var 7)) (by decide)) da_nil)))))))))
set_option maxHeartbeats 4000000 in
theorem ok__law_tape (T : Txt P w K mg) {a : Addr} {fd : FuncData} (F : Fun K "_law_tape" "_law_tape" s__law_tape a fd) : FnOk P w K mg base (L2N.CX P w) 1 a fd ["_law_script"] (spM K mg (r__law_tape)) :=
  fn_body (N := N__law_tape) F sc__law_tape fun cdv A outer s H E hr =>
      (dss_cons (ds_set (i := 1) sc__law_tape.nd rfl (Or.inl rfl) d_int)
      (dss_cons (ds_for (passes_of rfl) rfl (di_seq (d_var 0)) (dg_name (i := 2) sc__law_tape.nd rfl (Or.inl rfl)) (dss_one (ds_set (i := 1) sc__law_tape.nd rfl (Or.inl rfl) (d_op o_mod (d_callTy c_int (by rfl) T.n_int (by decide +kernel) (da_cons (d_op o_add (d_op o_mul (d_var 1) d_int) (d_callB c_abs (by rfl) T.n_abs (by decide +kernel) (da_cons (d_callTy c_int (by rfl) T.n_int (by decide +kernel) (da_cons (d_var 2) da_nil)) da_nil))) da_nil)) d_int))))
      (dss_one (ds_ret (d_lst (da_cons (d_callTy c_list (by rfl) T.n_list (by decide +kernel) (da_cons (d_var 0) da_nil)) (da_cons d_int (da_cons d_int (da_cons (d_var 1) da_nil)))))))))
set_option maxHeartbeats 4000000 in
theorem ok__law_draw (T : Txt P w K mg) {a : Addr} {fd : FuncData} (F : Fun K "_law_draw" "_law_draw" s__law_draw a fd) : FnOk P w K mg base (L2N.CX P w) 1 a fd ["_law_tape_here", "_law_many"] (spM K mg (r__law_draw)) :=
  fn_body (N := N__law_draw) F sc__law_draw fun cdv A outer s H E hr =>
      (dss_cons (ds_if (dt_cmp (o_eq hr.units) (d_ix i_ix (d_var 0) d_int (fun _ _ => rfl)) d_int (nomark _)) (dss_cons (ds_set (i := 2) sc__law_draw.nd rfl (Or.inl rfl) (d_ix i_ix (d_var 0) d_int (fun _ _ => rfl)))
      (dss_cons (ds_set (i := 3) sc__law_draw.nd rfl (Or.inl rfl) d_int)
      (dss_cons (ds_if (dt_cmp o_lt (d_var 2) (d_callB c_len (by rfl) T.n_len (by decide +kernel) (da_cons (d_ix i_ix (d_var 0) d_int (fun _ _ => rfl)) da_nil)) (nomark _)) (dss_one (ds_set (i := 3) sc__law_draw.nd rfl (Or.inl rfl) (d_callB c_abs (by rfl) T.n_abs (by decide +kernel) (da_cons (d_callTy c_int (by rfl) T.n_int (by decide +kernel) (da_cons (d_ix i_ix (d_ix i_ix (d_var 0) d_int (fun _ _ => rfl)) (d_var 2) (fun _ _ => rfl)) da_nil)) da_nil)))) (dss_cons (ds_sub s_list (d_op o_mod (d_callTy c_int (by rfl) T.n_int (by decide +kernel) (da_cons (d_op o_add (d_op o_add (d_op o_mul (d_ix i_ix (d_var 0) d_int (fun _ _ => rfl)) d_int) (d_var 2)) d_int) da_nil)) d_int) (d_var 0) d_int)
      (dss_one (ds_set (i := 3) sc__law_draw.nd rfl (Or.inl rfl) (d_ix i_ix (d_var 0) d_int (fun _ _ => rfl))))))
      (dss_cons (ds_sub s_list (d_op o_add (d_var 2) d_int) (d_var 0) d_int)
      (dss_cons (ds_if (dt_cmp o_lt (d_var 3) (d_op o_pow d_int d_int) (nomark _)) (dss_cons (ds_set (i := 3) sc__law_draw.nd rfl (Or.inl rfl) (d_op o_mod (d_callTy c_int (by rfl) T.n_int (by decide +kernel) (da_cons (d_op o_add (d_op o_add (d_op o_mul (d_var 3) d_int) (d_op o_mul (d_var 2) d_int)) d_int) da_nil)) d_int))
      (dss_cons (ds_set (i := 3) sc__law_draw.nd rfl (Or.inl rfl) (d_op o_mod (d_callTy c_int (by rfl) T.n_int (by decide +kernel) (da_cons (d_op o_mul (d_var 3) d_int) da_nil)) d_int))
      (dss_one (ds_ret (d_op o_mod (d_callTy c_int (by rfl) T.n_int (by decide +kernel) (da_cons (d_var 3) da_nil)) (d_callB (c_max2 rfl) (by rfl) T.n_max (by decide +kernel) (da_cons (d_var 1) (da_cons d_int da_nil)))))))) dss_nil)
      (dss_one (ds_sub s_list (d_var 3) (d_var 0) d_int))))))) dss_nil)
      (dss_cons (ds_set (i := 3) sc__law_draw.nd rfl (Or.inl rfl) (d_ix i_ix (d_var 0) d_int (fun _ _ => rfl)))
      (dss_cons (ds_sub s_list (d_op o_fdiv (d_var 3) (d_callB (c_max2 rfl) (by rfl) T.n_max (by decide +kernel) (da_cons (d_var 1) (da_cons d_int da_nil)))) (d_var 0) d_int)
      (dss_one (ds_ret (d_op o_mod (d_callTy c_int (by rfl) T.n_int (by decide +kernel) (da_cons (d_var 3) da_nil)) (d_callB (c_max2 rfl) (by rfl) T.n_max (by decide +kernel) (da_cons (d_var 1) (da_cons d_int da_nil)))))))))
set_option maxHeartbeats 4000000 in
theorem ok__law_texts (T : Txt P w K mg) {f__law_draw : Mir} (C__law_draw : Cal P w K mg base "_law_draw" 1 ["_law_tape_here", "_law_many"] f__law_draw) {a : Addr} {fd : FuncData} (F : Fun K "_law_texts" "_law_texts" s__law_texts a fd) : FnOk P w K mg base (L2N.CX P w) 2 a fd ["_law_tape_here", "_law_many"] (spM K mg (r__law_texts f__law_draw)) :=
  fn_body (N := N__law_texts) F sc__law_texts fun cdv A outer s H E hr =>
      (dss_cons (ds_set (i := 2) sc__law_texts.nd rfl (Or.inl rfl) (d_lst (da_cons d_str (da_cons d_str (da_cons d_str (da_cons d_str (da_cons d_str (da_cons d_str (da_cons d_str (da_cons d_str (da_cons d_str (da_cons d_str (da_cons d_str (da_cons d_str da_nil))))))))))))))
      (dss_cons (ds_set (i := 3) sc__law_texts.nd rfl (Or.inl rfl) (d_lst da_nil))
      (dss_cons (ds_for (passes_of rfl) rfl (di_range1 (by rfl) T.n_range (da_cons (d_var 1) da_nil) (len_cons len_nil)) (dg_name (i := 4) sc__law_texts.nd rfl (Or.inl rfl)) (dss_cons (ds_set (i := 5) sc__law_texts.nd rfl (Or.inl rfl) (d_cal C__law_draw (hr.mono (by decide)) (by rfl) passX (da_cons (d_var 0) (da_cons d_int da_nil))))
      (dss_cons (ds_set (i := 6) sc__law_texts.nd rfl (Or.inl rfl) (d_ix i_ix (d_var 2) (d_op o_mod (d_callTy c_int (by rfl) T.n_int (by decide +kernel) (da_cons (d_var 5) da_nil)) d_int) (fun _ _ => rfl)))
      (dss_cons (ds_if (dt_cmp (o_eq hr.units) (d_op o_mod (d_callTy c_int (by rfl) T.n_int (by decide +kernel) (da_cons (d_op o_fdiv (d_var 5) d_int) da_nil)) d_int) d_int (nomark _)) (dss_one (ds_set (i := 6) sc__law_texts.nd rfl (Or.inl rfl) (d_op o_add (d_slice (d_var 6) do_none (do_some d_int)) (d_op o_mul (d_ix i_ix d_str (d_op o_mod (d_callTy c_int (by rfl) T.n_int (by decide +kernel) (da_cons (d_op o_fdiv (d_var 5) d_int) da_nil)) d_int) (fun _ _ => rfl)) (d_op o_add d_int (d_callTy c_int (by rfl) T.n_int (by decide +kernel) (da_cons (d_op o_fdiv (d_var 5) d_int) da_nil))))))) dss_nil)
      (dss_cons (ds_if (dt_cmp o_in (d_var 6) (d_var 3) (by rfl)) (dss_one (ds_set (i := 6) sc__law_texts.nd rfl (Or.inl rfl) (d_op o_add d_str (d_callTy c_str (by rfl) T.n_str (by decide +kernel) (da_cons (d_var 4) da_nil))))) dss_nil)
      (dss_one (ds_expr (d_m PySem.F.plainAttrs_list PySem.F.slot_list_append PySem.F.type_list_append m_append (d_var 3) (da_cons (d_var 6) da_nil)))))))))
      (dss_one (ds_ret (d_var 3))))))
set_option maxHeartbeats 4000000 in
theorem ok__law_fresh (T : Txt P w K mg) {a : Addr} {fd : FuncData} (F : Fun K "_law_fresh" "_law_fresh" s__law_fresh a fd) : FnOk P w K mg base (L2N.CX P w) 1 a fd ["_law_sign", "_law_constants", "_law_many"] (spM K mg (r__law_fresh)) :=
  fn_body (N := N__law_fresh) F sc__law_fresh fun cdv A outer s H E hr =>
      (dss_cons (ds_setLc (i := 3) (own := [("_law_k", 4)]) (t := (.nm 4)) (by rfl) sc__law_fresh.nd (by rfl) rfl (sw_true rfl rfl rfl (by decide +kernel)) (di_range1 (by rfl) T.n_range (da_cons (d_op o_add (d_var 2) (d_callB c_len (by rfl) T.n_len (by decide +kernel) (da_cons (d_var 1) da_nil))) da_nil) (len_cons len_nil)) (blkOk_by (own := [("_law_k", 4)]) (N := N__law_fresh) (sc := defScope s__law_fresh) (by decide +kernel)) (fun _ _ _ _ _ => (dg_name (i := 4) sc__law_fresh.nd rfl (Or.inl rfl))) (fun _ _ _ _ _ => dts_nil) (fun _ _ _ _ _ => (d_op o_add (d_var 0) (d_callTy c_str (by rfl) T.n_str (by decide +kernel) (da_cons (d_op o_add (d_var 4) d_int) da_nil)))) (by decide))
      (dss_one (ds_ret (d_slice (d_lc (own := [("_law_text", 5)]) (t := (.nm 5)) (by rfl) sc__law_fresh.nd (di_seq (d_var 3)) (blkOk_by (own := [("_law_text", 5)]) (N := N__law_fresh) (sc := defScope s__law_fresh) (by decide +kernel)) (fun _ _ _ _ _ => (dg_name (i := 5) sc__law_fresh.nd rfl (Or.inl rfl))) (fun _ _ _ _ _ => (dts_one (dt_cmp o_notin (d_var 5) (d_var 1) (by rfl)))) (fun _ _ _ _ _ => (d_var 5)) (by decide)) do_none (do_some (d_var 2))))))
set_option maxHeartbeats 4000000 in
theorem ok__law_same (T : Txt P w K mg) {a : Addr} {fd : FuncData} (F : Fun K "_law_same" "_law_same" s__law_same a fd) : FnG P w K mg base 1 a fd ["_law_told_here", "_law_due"] (spM K mg (r__law_same)) :=
  fn_bodyG (N := N__law_same) F sc__law_same fun cdv A outer s H E hr hgd =>
      (dss_cons (ds_if (dt_w (dw_or (dt_cmp (o_ne hr.units) (d_isi (by rfl) T.n_isinstance (by rfl) T.n_tuple (by decide +kernel) (d_var 0)) (d_isi (by rfl) T.n_isinstance (by rfl) T.n_tuple (by decide +kernel) (d_var 1)) (nomark _)) (dw_or1 (dt_cmp (o_ne hr.units) (d_isi (by rfl) T.n_isinstance (by rfl) T.n_bool (by decide +kernel) (d_var 0)) (d_isi (by rfl) T.n_isinstance (by rfl) T.n_bool (by decide +kernel) (d_var 1)) (nomark _))))) (dss_one (ds_ret d_bl)) dss_nil)
      (dss_one (ds_ret (d_and (d_cmp (o_eq hr.units) (d_var 0) (d_var 1) (nomark _)) (d_one (d_cmp (o_eq hr.units) (d_callB (c_repr hgd hr.units) (by rfl) T.n_repr (by decide +kernel) (da_cons (d_var 0) da_nil)) (d_callB (c_repr hgd hr.units) (by rfl) T.n_repr (by decide +kernel) (da_cons (d_var 1) da_nil)) (nomark _)))))))
set_option maxHeartbeats 4000000 in
theorem ok__law_ways (T : Txt P w K mg) {a : Addr} {fd : FuncData} (F : Fun K "_law_ways" "_law_ways" s__law_ways a fd) : FnOk P w K mg base (L2N.CX P w) 1 a fd ["_law_many", "_law_columns"] (spM K mg (r__law_ways)) :=
  fn_body (N := N__law_ways) F sc__law_ways fun cdv A outer s H E hr =>
      (dss_cons (ds_set (i := 2) sc__law_ways.nd rfl (Or.inl rfl) (d_lst (da_cons d_int da_nil)))
      (dss_cons (ds_for (passes_of rfl) rfl (di_range1 (by rfl) T.n_range (da_cons (d_var 1) da_nil) (len_cons len_nil)) (dg_name (i := 3) sc__law_ways.nd rfl (Or.inl rfl)) (dss_cons (ds_set (i := 4) sc__law_ways.nd rfl (Or.inl rfl) (d_op o_add (d_lst (da_cons d_int da_nil)) (d_var 2)))
      (dss_cons (ds_for (passes_of rfl) rfl (di_range1 (by rfl) T.n_range (da_cons (d_callB c_len (by rfl) T.n_len (by decide +kernel) (da_cons (d_var 2) da_nil)) da_nil) (len_cons len_nil)) (dg_name (i := 5) sc__law_ways.nd rfl (Or.inl rfl)) (dss_one (ds_sub s_list (d_op o_add (d_ix i_ix (d_var 4) (d_var 5) (fun _ _ => rfl)) (d_op o_mul (d_op o_add (d_var 0) (d_var 5)) (d_ix i_ix (d_var 2) (d_var 5) (fun _ _ => rfl)))) (d_var 4) (d_var 5))))
      (dss_one (ds_set (i := 2) sc__law_ways.nd rfl (Or.inl rfl) (d_var 4))))))
      (dss_one (ds_ret (d_var 2)))))
set_option maxHeartbeats 4000000 in
theorem ok__law_text_rows (T : Txt P w K mg) {f__law_fresh : Mir} (C__law_fresh : Cal P w K mg base "_law_fresh" 1 ["_law_sign", "_law_constants", "_law_many"] f__law_fresh) {a : Addr} {fd : FuncData} (F : Fun K "_law_text_rows" "_law_text_rows" s__law_text_rows a fd) : FnOk P w K mg base (L2N.CX P w) 2 a fd ["_law_texts_here", "_law_columns", "_law_many"] (spM K mg (r__law_text_rows f__law_fresh)) :=
  fn_body (N := N__law_text_rows) F sc__law_text_rows fun cdv A outer s H E hr =>
      (dss_cons (ds_set (i := 3) sc__law_text_rows.nd rfl (Or.inl rfl) (d_cal C__law_fresh (hr.mono (by decide)) (by rfl) passX (da_cons d_str (da_cons (d_var 0) (da_cons (d_op o_add (d_var 2) d_int) da_nil)))))
      (dss_cons (ds_set (i := 4) sc__law_text_rows.nd rfl (Or.inl rfl) (d_lst (da_cons (d_tup (da_cons (d_tup da_nil) (da_cons d_int da_nil))) da_nil)))
      (dss_cons (ds_for (passes_of rfl) rfl (di_range1 (by rfl) T.n_range (da_cons (d_var 1) da_nil) (len_cons len_nil)) (dg_name (i := 5) sc__law_text_rows.nd rfl (Or.inl rfl)) (dss_cons (ds_set (i := 6) sc__law_text_rows.nd rfl (Or.inl rfl) (d_lst da_nil))
      (dss_cons (ds_for (passes_of rfl) rfl (di_seq (d_callTy c_list (by rfl) T.n_list (by decide +kernel) (da_cons (d_var 4) da_nil))) (dg_name (i := 7) sc__law_text_rows.nd rfl (Or.inl rfl)) (dss_cons (ds_set (i := 8) sc__law_text_rows.nd rfl (Or.inl rfl) (d_op o_add (d_callTy c_list (by rfl) T.n_list (by decide +kernel) (da_cons (d_var 0) da_nil)) (d_slice (d_var 3) do_none (do_some (d_op o_add (d_ix i_ix (d_var 7) d_int (fun _ _ => rfl)) d_int)))))
      (dss_one (ds_for (passes_of rfl) rfl (di_range1 (by rfl) T.n_range (da_cons (d_callB c_len (by rfl) T.n_len (by decide +kernel) (da_cons (d_var 8) da_nil)) da_nil) (len_cons len_nil)) (dg_name (i := 9) sc__law_text_rows.nd rfl (Or.inl rfl)) (dss_cons (ds_set (i := 10) sc__law_text_rows.nd rfl (Or.inl rfl) (d_op o_add (d_ix i_ix (d_var 7) d_int (fun _ _ => rfl)) (d_callTy c_int (by rfl) T.n_int (by decide +kernel) (da_cons (d_cmp (o_eq hr.units) (d_var 9) (d_op o_sub (d_callB c_len (by rfl) T.n_len (by decide +kernel) (da_cons (d_var 8) da_nil)) d_int) (nomark _)) da_nil))))
      (dss_one (ds_if (dt_w (dw_and (dt_cmp o_le (d_var 10) (d_var 2) (nomark _)) (dw_and1 (dt_cmp o_ge (d_op o_sub (d_op o_sub (d_op o_add (d_var 10) (d_var 1)) (d_var 5)) d_int) (d_var 2) (nomark _))))) (dss_one (ds_expr (d_m PySem.F.plainAttrs_list PySem.F.slot_list_append PySem.F.type_list_append m_append (d_var 6) (da_cons (d_tup (da_cons (d_op o_add (d_ix i_ix (d_var 7) d_int (fun _ _ => rfl)) (d_tup (da_cons (d_ix i_ix (d_var 8) (d_var 9) (fun _ _ => rfl)) da_nil))) (da_cons (d_var 10) da_nil))) da_nil)))) dss_nil)))))))
      (dss_one (ds_set (i := 4) sc__law_text_rows.nd rfl (Or.inl rfl) (d_var 6))))))
      (dss_one (ds_ret (d_lc (own := [("_law_pair", 7)]) (t := (.nm 7)) (by rfl) sc__law_text_rows.nd (di_seq (d_var 4)) (blkOk_by (own := [("_law_pair", 7)]) (N := N__law_text_rows) (sc := defScope s__law_text_rows) (by decide +kernel)) (fun _ _ _ _ _ => (dg_name (i := 7) sc__law_text_rows.nd rfl (Or.inl rfl))) (fun _ _ _ _ _ => dts_nil) (fun _ _ _ _ _ => (d_ix i_ix (d_var 7) d_int (fun _ _ => rfl))) (by decide)))))))
set_option maxHeartbeats 4000000 in
theorem ok__law_told (T : Txt P w K mg) {f_text_rows : Mir} (C_text_rows : Cal P w K mg base "text_rows" 3 ["texts", "columns", "many"] f_text_rows) {a : Addr} {fd : FuncData} (F : Fun K "_law_told" "_law_told" s__law_told a fd) : FnOk P w K mg base (L2N.CX P w) 4 a fd ["_law_texts_here", "_law_columns", "_law_many"] (spM K mg (r__law_told f_text_rows)) :=
  fn_body (N := N__law_told) F sc__law_told fun cdv A outer s H E hr =>
      (dss_one (ds_try (L2N.takes_of rfl rfl rfl rfl) rfl rfl sc__law_told.nd (fun W' pn xe tk => (dss_one (ds_ret (d_cal C_text_rows (hr.mono (by decide)) (by rfl) (fun σ => L2N.passAt tk σ) (da_cons (d_var 0) (da_cons (d_var 1) (da_cons (d_var 2) da_nil))))))) (hd_named (i := 3) T.kc_TooManyCases (by rfl) rfl rfl (fun a pn => (DSsh.of (dss_one (ds_ret (d_tup (da_cons d_str (da_cons (d_xf T.xf_count.all (d_var 3)) (da_cons (d_and (d_xiC (by rfl) T.n_isinstance (by rfl) T.ig_MigrationError (d_var 3)) (d_one (d_xiB (by rfl) T.n_isinstance (by rfl) T.n_ValueError (by decide +kernel) T.ib_ValueError (d_var 3)))) da_nil)))))))) .nil)))
set_option maxHeartbeats 4000000 in
theorem ok_law (T : Txt P w K mg) {f__law_same : Mir} (C__law_same : CalG P w K mg base "_law_same" 1 ["_law_told_here", "_law_due"] f__law_same) {f__law_text_rows : Mir} (C__law_text_rows : Cal P w K mg base "_law_text_rows" 2 ["_law_texts_here", "_law_columns", "_law_many"] f__law_text_rows) {f__law_told : Mir} (C__law_told : Cal P w K mg base "_law_told" 4 ["_law_texts_here", "_law_columns", "_law_many"] f__law_told) {f_many_text_rows : Mir} (C_many_text_rows : Cal P w K mg base "many_text_rows" 1 ["length", "columns", "many"] f_many_text_rows) {f__law_ways : Mir} (C__law_ways : Cal P w K mg base "_law_ways" 1 ["_law_many", "_law_columns"] f__law_ways) {f__law_draw : Mir} (C__law_draw : Cal P w K mg base "_law_draw" 1 ["_law_tape_here", "_law_many"] f__law_draw) {f__law_texts : Mir} (C__law_texts : Cal P w K mg base "_law_texts" 2 ["_law_tape_here", "_law_many"] f__law_texts) {f__law_tape : Mir} (C__law_tape : Cal P w K mg base "_law_tape" 1 ["_law_script"] f__law_tape) {a : Addr} {fd : FuncData} (F : Fun K "law" "law" s_law a fd) : FnG P w K mg base 5 a fd ["_law_script"] (spM K mg (r_law f__law_same f__law_text_rows f__law_told f_many_text_rows f__law_ways f__law_draw f__law_texts f__law_tape)) :=
  fn_bodyG (N := N_law) F sc_law fun cdv A outer s H E hr hgd =>
      (dss_cons (ds_set (i := 1) sc_law.nd rfl (Or.inl rfl) (d_cal C__law_tape (hr.mono (by decide)) (by rfl) passX (da_cons (d_var 0) da_nil)))
      (dss_cons (ds_set (i := 2) sc_law.nd rfl (Or.inl rfl) (d_cal C__law_texts (hr.mono (by decide)) (by rfl) passX (da_cons (d_var 1) (da_cons (d_cal C__law_draw (hr.mono (by decide)) (by rfl) passX (da_cons (d_var 1) (da_cons d_int da_nil))) da_nil))))
      (dss_cons (ds_set (i := 3) sc_law.nd rfl (Or.inl rfl) (d_ix i_ix (d_lst (da_cons d_int (da_cons d_int (da_cons d_int (da_cons d_int (da_cons d_int (da_cons d_int (da_cons d_int (da_cons (d_op o_add d_int (d_cal C__law_draw (hr.mono (by decide)) (by rfl) passX (da_cons (d_var 1) (da_cons d_int da_nil)))) da_nil))))))))) (d_cal C__law_draw (hr.mono (by decide)) (by rfl) passX (da_cons (d_var 1) (da_cons d_int da_nil))) (fun _ _ => rfl)))
      (dss_cons (ds_if (dt_cmp (o_eq hr.units) (d_cal C__law_draw (hr.mono (by decide)) (by rfl) passX (da_cons (d_var 1) (da_cons d_int da_nil))) d_int (nomark _)) (dss_one (ds_set (i := 2) sc_law.nd rfl (Or.inl rfl) (d_op o_add (d_var 2) (d_lc (own := [("_law_k", 8)]) (t := (.nm 8)) (by rfl) sc_law.nd (di_range1 (by rfl) T.n_range (da_cons (d_cal C__law_draw (hr.mono (by decide)) (by rfl) passX (da_cons (d_var 1) (da_cons (d_op o_sub d_int (d_callB c_len (by rfl) T.n_len (by decide +kernel) (da_cons (d_var 2) da_nil))) da_nil))) da_nil) (len_cons len_nil)) (blkOk_by (own := [("_law_k", 8)]) (N := N_law) (sc := defScope s_law) (by decide +kernel)) (fun _ _ _ _ _ => (dg_name (i := 8) sc_law.nd rfl (Or.inl rfl))) (fun _ _ _ _ _ => dts_nil) (fun _ _ _ _ _ => (d_op o_add d_str (d_callTy c_str (by rfl) T.n_str (by decide +kernel) (da_cons (d_var 8) da_nil)))) (by decide))))) dss_nil)
      (dss_cons (ds_for (passes_of rfl) rfl (di_range1 (by rfl) T.n_range (da_cons d_int da_nil) (len_cons len_nil)) (dg_name (i := 4) sc_law.nd rfl (Or.inl rfl)) (dss_one (ds_if (dt_cmp o_gt (d_callB (c_sum rfl) (by rfl) T.n_sum (by decide +kernel) (da_cons (d_cal C__law_ways (hr.mono (by decide)) (by rfl) passX (da_cons (d_callB c_len (by rfl) T.n_len (by decide +kernel) (da_cons (d_var 2) da_nil)) (da_cons (d_var 3) da_nil))) da_nil)) d_int (nomark _)) (dss_one (ds_set (i := 3) sc_law.nd rfl (Or.inl rfl) (d_op o_sub (d_var 3) d_int))) dss_nil)))
      (dss_cons (ds_set (i := 5) sc_law.nd rfl (Or.inl rfl) (d_cal C__law_draw (hr.mono (by decide)) (by rfl) passX (da_cons (d_var 1) (da_cons (d_op o_add (d_var 3) d_int) da_nil))))
      (dss_cons (ds_set (i := 6) sc_law.nd rfl (Or.inl rfl) (d_ix i_ix (d_cal C__law_ways (hr.mono (by decide)) (by rfl) passX (da_cons (d_callB c_len (by rfl) T.n_len (by decide +kernel) (da_cons (d_var 2) da_nil)) (da_cons (d_var 3) da_nil))) (d_var 5) (fun _ _ => rfl)))
      (dss_cons (ds_set (i := 7) sc_law.nd rfl (Or.inl rfl) (d_cal C_many_text_rows (hr.mono (by decide)) (by rfl) passX (da_cons (d_callB c_len (by rfl) T.n_len (by decide +kernel) (da_cons (d_var 2) da_nil)) (da_cons (d_var 3) (da_cons (d_var 5) da_nil)))))
      (dss_cons (ds_if (dt_w (dw_or (dt_not (dt_of (d_isi (by rfl) T.n_isinstance (by rfl) T.n_int (by decide +kernel) (d_var 7)))) (dw_or (dt_of (d_isi (by rfl) T.n_isinstance (by rfl) T.n_bool (by decide +kernel) (d_var 7))) (dw_or1 (dt_cmp (o_ne hr.units) (d_var 7) (d_var 6) (nomark _)))))) (dss_one (ds_ret d_bl)) dss_nil)
      (dss_cons (ds_if (dt_cmp o_gt (d_var 6) d_int (nomark _)) (dss_one (ds_ret (d_calG C__law_same (hr.mono (by decide)) hgd (by rfl) passX (da_cons (d_cal C__law_told (hr.mono (by decide)) (by rfl) passX (da_cons (d_callTy c_tuple (by rfl) T.n_tuple (by decide +kernel) (da_cons (d_var 2) da_nil)) (da_cons (d_var 3) (da_cons (d_var 5) da_nil)))) (da_cons (d_tup (da_cons d_str (da_cons (d_var 6) (da_cons d_bl da_nil)))) da_nil))))) dss_nil)
      (dss_one (ds_ret (d_calG C__law_same (hr.mono (by decide)) hgd (by rfl) passX (da_cons (d_cal C__law_told (hr.mono (by decide)) (by rfl) passX (da_cons (d_callTy c_tuple (by rfl) T.n_tuple (by decide +kernel) (da_cons (d_var 2) da_nil)) (da_cons (d_var 3) (da_cons (d_var 5) da_nil)))) (da_cons (d_callTy c_tuple (by rfl) T.n_tuple (by decide +kernel) (da_cons (d_cal C__law_text_rows (hr.mono (by decide)) (by rfl) passX (da_cons (d_var 2) (da_cons (d_var 3) (da_cons (d_var 5) da_nil)))) da_nil)) da_nil)))))))))))))))
end
end LW
namespace LW
open PySem PySem.Spec PyProof.Rows L2 RT RZ DL VL
/-! ### the tape: what a draw gives -/
def absAt (τ : Tau) : Int := if τ.ns.getD τ.pl.toNat 0 < 0 then -τ.ns.getD τ.pl.toNat 0 else τ.ns.getD τ.pl.toNat 0
def drawN (τ : Tau) (m : Int) : Int × Tau :=
  if τ.nx = 0 then
    if τ.pl < τ.ns.length then
      if absAt τ < 1000000000000000000 then
        (((absAt τ * 48271 + τ.pl * 69621 + 5) % 2147483647 * 69621) % 2147483629 % (if 1 > m then 1 else m), { τ with pl := τ.pl + 1, nx := 0 })
      else (absAt τ % (if 1 > m then 1 else m), { τ with pl := τ.pl + 1, nx := absAt τ / (if 2 > m then 2 else m) })
    else ((((τ.tot * 48271 + τ.pl + 1) % 2147483647 * 48271 + τ.pl * 69621 + 5) % 2147483647 * 69621) % 2147483629 % (if 1 > m then 1 else m), { τ with pl := τ.pl + 1, nx := 0, tot := (τ.tot * 48271 + τ.pl + 1) % 2147483647 })
  else (τ.nx % (if 1 > m then 1 else m), { τ with nx := τ.nx / (if 2 > m then 2 else m) })
theorem drawN_ns (τ : Tau) (m : Int) : (drawN τ m).2.ns = τ.ns := by
  unfold drawN
  split
  · split
    · split <;> rfl
    · rfl
  · rfl
theorem drawN_pl (τ : Tau) (m : Int) (h : 0 ≤ τ.pl) : 0 ≤ (drawN τ m).2.pl := by
  unfold drawN
  split
  · split
    · split
      · show 0 ≤ τ.pl + 1; omega
      · show 0 ≤ τ.pl + 1; omega
    · show 0 ≤ τ.pl + 1; omega
  · exact h
theorem mod_in (x m : Int) : 0 ≤ x % (if 1 > m then 1 else m) ∧ x % (if 1 > m then 1 else m) < max m 1 := by
  have h0 : (0 : Int) < (if 1 > m then 1 else m) := by split <;> omega
  exact ⟨Int.emod_nonneg _ (by omega), Int.lt_of_lt_of_le (Int.emod_lt_of_pos _ h0) (by split <;> omega)⟩
theorem drawN_in (τ : Tau) (m : Int) : 0 ≤ (drawN τ m).1 ∧ (drawN τ m).1 < max m 1 := by
  unfold drawN
  split
  · split
    · split
      · exact mod_in _ _
      · exact mod_in _ _
    · exact mod_in _ _
  · exact mod_in _ _
def V__law_draw : MirV
  | [.tape, .int m], τ => if m.natAbs < 2 ^ 62 then some (.ok (.int (drawN τ m).1), (drawN τ m).2) else none
  | _, _ => none
/-- a draw -/
theorem draw_v (τ : Tau) {m : Nat} (h : 0 < m) (h2 : m < 2 ^ 62) : ∃ (k : Nat) (τ' : Tau), V__law_draw [.tape, .int m] τ = some (.ok (.int k), τ') ∧ k < m := by
  obtain ⟨a, b⟩ := drawN_in τ m
  refine ⟨(drawN τ m).1.toNat, (drawN τ m).2, ?_, by omega⟩
  show (if (m : Int).natAbs < 2 ^ 62 then _ else _) = _
  rw [if_pos (by simpa using h2), show (((drawN τ m).1.toNat : Nat) : Int) = (drawN τ m).1 by omega]
theorem draw_lit (τ : Tau) (m : Int) (h : 0 < m := by decide) (h2 : m < 2 ^ 62 := by decide) : ∃ (k : Nat) (τ' : Tau), V__law_draw [.tape, .int m] τ = some (.ok (.int k), τ') ∧ (k : Int) < m := by
  obtain ⟨k, τ', h3, h4⟩ := draw_v (m := m.toNat) τ (by omega) (by omega)
  rw [show ((m.toNat : Nat) : Int) = m by omega] at h3
  exact ⟨k, τ', h3, by omega⟩
theorem small_log {m : Int} (h : m.natAbs < 2 ^ 64) : m.natAbs.log2 < 9000 := by
  by_cases h0 : m.natAbs = 0
  · rw [h0]; decide
  · have := (Nat.log2_lt h0).mpr h
    omega
set_option maxHeartbeats 2000000 in
theorem draw_run {S : Sto} {t s : Nat} {m : Int} {τ : Tau} (T : TpOk t s [] S τ) (hm : m.natAbs < 2 ^ 62) : F__law_draw [.ref t, .int m] S = some (.ok (.int (drawN τ m).1), S.set t (.lst [.ref s, .int (drawN τ m).2.pl, .int (drawN τ m).2.nx, .int (drawN τ m).2.tot])) := by
  obtain ⟨ht, hs, hp, ne⟩ := T
  obtain ⟨ns, p, n, g⟩ := τ
  simp only at ht hs hp
  have lt : t < S.length := lst_lt ht
  have ls : s < S.length := lst_lt hs
  have pos1 : (0 : Int) < (if 1 > m then 1 else m) := by split <;> omega
  have div2' : ∀ n : Int, CDivW n (if 2 > m then 2 else m) := fun n => ⟨by split <;> omega, small_log (by split <;> omega)⟩
  have a0 : ∀ (p n g : Int), atI [D.ref s, .int p, .int n, .int g] 0 = some (.ref s) := fun _ _ _ => rfl
  have a1 : ∀ (p n g : Int), atI [D.ref s, .int p, .int n, .int g] 1 = some (.int p) := fun _ _ _ => rfl
  have a2 : ∀ (p n g : Int), atI [D.ref s, .int p, .int n, .int g] 2 = some (.int n) := fun _ _ _ => rfl
  have a3 : ∀ (p n g : Int), atI [D.ref s, .int p, .int n, .int g] 3 = some (.int g) := fun _ _ _ => rfl
  have gs : ∀ o : O, (S.set t o)[t]? = some o := fun o => List.getElem?_set_self lt
  have gn : ∀ o : O, (S.set t o)[s]? = some (.lst (ns.map D.int)) := fun o => by rw [List.getElem?_set_ne ne]; exact hs
  have i1 : ixN 4 1 = some 1 := rfl
  have i2 : ixN 4 2 = some 2 := rfl
  have i3 : ixN 4 3 = some 3 := rfl
  show r__law_draw [.ref t, .int m] S = _
  by_cases hn : n = 0
  · subst hn
    by_cases hpl : p < ns.length
    · obtain ⟨k, hk⟩ : ∃ k : Nat, p = k := ⟨p.toNat, by omega⟩
      have hk2 : k < ns.length := by omega
      have hat : atI (ns.map D.int) p = some (.int ns[k]) := atI_of hk (by simp [hk2])
      have hg : ns.getD p.toNat 0 = ns[k] := by rw [hk, Int.toNat_natCast, List.getD_eq_getElem?_getD, List.getElem?_eq_getElem hk2]; rfl
      have ha : absAt ⟨ns, p, 0, g⟩ = (if ns[k] < 0 then -ns[k] else ns[k]) := by unfold absAt; rw [hg]
      unfold drawN
      simp only [ha, if_pos hpl]
      by_cases hb : (if ns[k] < 0 then -ns[k] else ns[k]) < 1000000000000000000
      · simp [m__law_draw, E_seq_ref, ht, hs, a0, a1, a2, a3, i1, i2, i3, hpl, hat, gs, gn, hb, pos1]
      · simp [m__law_draw, E_seq_ref, ht, hs, a0, a1, a2, a3, i1, i2, i3, hpl, hat, gs, gn, hb, pos1, E_gFdiv, div2']
    · have hg : (g * 48271 + p + 1) % 2147483647 < 1000000000000000000 := by omega
      unfold drawN
      simp only [if_neg hpl]
      simp [m__law_draw, E_seq_ref, ht, hs, a0, a1, a2, a3, i1, i2, i3, hpl, gs, gn, hg, pos1]
  · unfold drawN
    simp only [if_neg hn]
    simp [m__law_draw, E_seq_ref, ht, hs, a0, a1, a2, a3, i1, i2, i3, gs, gn, hn, pos1, E_gFdiv, div2']
theorem vok__law_draw {t s : Nat} : VOk t s [] F__law_draw V__law_draw := fun A S ds ps τ a q T r τ' e => by
  unfold V__law_draw at e
  split at e
  · rename_i m
    split at e
    · rename_i hm
      cases e
      unfold Rds at q
      obtain ⟨d1, r1, rfl, q1, q2⟩ := q
      unfold Rds at q2
      obtain ⟨d2, r2, rfl, q3, q4⟩ := q2
      unfold Rds at q4
      subst q4
      unfold VL.Rd at q1 q3
      subst q1 q3
      have lt := T.lt
      refine ⟨_, _, draw_run T hm, ⟨by simp, fun n h1 h2 => List.getElem?_set_ne (fun z => h2 z.symm)⟩, ⟨List.getElem?_set_self lt, by rw [List.getElem?_set_ne T.ne, drawN_ns]; exact T.src, drawN_pl τ m T.pos, T.ne⟩, ?_⟩
      show VL.Rd t S A (.int (drawN τ m).1) (.int (drawN τ m).1)
      exact mInt'
    · cases e
  · cases e
set_option maxHeartbeats 1000000 in
theorem tape_ex (ns : List Int) : ∃ τ : Tau, F__law_tape [.ref 0] [.rol (ns.map D.int)] = some (.ok (.ref 2), [.rol (ns.map D.int), .lst (ns.map D.int), .lst [.ref 1, .int τ.pl, .int τ.nx, .int τ.tot]]) ∧ TpOk 2 1 [] [.rol (ns.map D.int), .lst (ns.map D.int), .lst [.ref 1, .int τ.pl, .int τ.nx, .int τ.tot]] τ := by
  suffices h : ∃ g : Int, r__law_tape [.ref 0] [.rol (ns.map D.int)] = some (.ok (.ref 2), [.rol (ns.map D.int), .lst (ns.map D.int), .lst [.ref 1, .int 0, .int 0, .int g]]) by
    obtain ⟨g, h⟩ := h
    exact ⟨⟨ns, 0, 0, g⟩, h, rfl, rfl, Int.le_refl _, by decide⟩
  obtain ⟨env', S', h1, x, y, h2, h3⟩ := forD_all (ok := fun S => seqOf (.ref 0) S = some (ns.map D.int)) (t := .nm 2) (fb := sAsg (.nm 1) (dOp gMod (dCB cInt (dCons (dOp gAdd (dOp gMul (dVar 1) (dC (.int 31))) (dCB cAbs (dCons (dCB cInt (dCons (dVar 2) dNil)) dNil))) dNil)) (dC (.int 2147483647))))
    (fun _ env S => ∃ (x : Int) (y : Option D), env = [some (.ref 0), some (.int x), y] ∧ S = [.rol (ns.map D.int)]) (ns.map D.int) [some (.ref 0), some (.int 7), none] [.rol (ns.map D.int)] (by rintro j env S - ⟨x, y, rfl, rfl⟩; rfl) ⟨7, none, rfl, rfl⟩ (by
      rintro j x env S hx ⟨u, y, rfl, rfl⟩
      obtain ⟨i, -, rfl⟩ : ∃ i, i ∈ ns ∧ D.int i = x := by simpa using List.mem_of_getElem? hx
      exact ⟨_, _, _, rfl, by simp; exact ⟨rfl, rfl⟩, _, _, rfl, rfl⟩)
  subst h2 h3
  refine ⟨x, ?_⟩
  have q0 : seqOf (.ref 0) [O.rol (ns.map D.int)] = some (ns.map D.int) := rfl
  simp [m__law_tape, q0, h1, sizeLine_eq]
/-- it returned True -/
def retT : AnsV → Bool
  | some (.rt (.bl b), _, _) => b
  | _ => false
@[simp] theorem retT_bl (b : Bool) (pe : PE) (τ : Tau) : retT (some (.rt (.bl b), pe, τ)) = b := rfl
theorem retT_ex {x : AnsV} (h : retT x = true) : ∃ pe' τ', x = some (.rt (.bl true), pe', τ') := by
  unfold retT at h
  split at h
  · subst h; exact ⟨_, _, rfl⟩
  · cases h
theorem law_end {i n : Nat} {m R : Ev → Sto → AnsS} {b : PE → Tau → AnsV} (hi : 0 < i ∧ i < n) (e1 : m = sSeq (sAsg (.nm i) (dCall F__law_tape (dCons (dVar 0) dNil))) R) (hR : SimS 2 1 [] R b)
    (h : ∀ τ, retT (b (([none] ++ List.replicate (n - 1) none).set i (some .tape)) τ) = true) (ns : List Int) : ∃ S', runB 1 n m [.ref 0] [.rol (ns.map D.int)] = some (.ok (.bl true), S') := by
  obtain ⟨τ, k1, k2⟩ := tape_ex ns
  obtain ⟨pe', τ', hb⟩ := retT_ex (h τ)
  obtain ⟨S, hS⟩ : ∃ S, S = [O.rol (ns.map D.int), .lst (ns.map D.int), .lst [.ref 1, .int τ.pl, .int τ.nx, .int τ.tot]] := ⟨_, rfl⟩
  have h3 : S.length = 3 := by rw [hS]; rfl
  rw [← hS] at k1 k2
  have rel : Rel 2 3 (fun k => k ≠ 2) (fun _ => none) S (([some (D.ref 0)] ++ List.replicate (n - 1) none).set i (some (.ref 2))) (([none] ++ List.replicate (n - 1) none).set i (some .tape)) := by
    refine ⟨by simp, fun j p e => ?_, fun _ _ _ z => by (cases z), fun _ _ z => by (cases z), fun j l k ds y m e => by
      exfalso
      rcases get_setS e with ⟨_, e, _⟩ | ⟨_, e⟩
      · cases e
      · cases j with
        | zero => simp at e
        | succ j =>
          simp only [List.singleton_append, List.getElem?_cons_succ, List.getElem?_replicate] at e
          split at e <;> cases e⟩
    rcases get_setS e with ⟨rfl, e, hl⟩ | ⟨ne, e⟩
    · cases e
      refine ⟨.ref 2, List.getElem?_set_self (by simpa using hl), RdT.of (by unfold VL.Rd; rfl), fun z => by cases z⟩
    · cases j with
      | zero => simp at e
      | succ j =>
        simp only [List.singleton_append, List.getElem?_cons_succ, List.getElem?_replicate] at e
        split at e <;> cases e
  obtain ⟨r', env', S', o', j1, j2, j3, j4⟩ := hR 3 (fun k => k ≠ 2) _ S _ _ τ ⟨by rw [h3]; exact Nat.le_refl _, fun n h => by omega, fun h => h rfl, by decide⟩ k2 rel _ _ _ hb
  cases r' <;> first | exact j4.elim | skip
  obtain ⟨j4, -⟩ := j4
  unfold VL.Rd at j4
  subst j4
  refine ⟨S', ?_⟩
  rw [e1]
  have e2 : n - 1 + 1 = n := by omega
  simp [k1, j1]
  simp at j1
  rw [j1]
end LW
namespace LW
open PySem PySem.Spec PyProof.Rows L2 RT RZ DL VL
noncomputable def b_numbered_texts_1 : PE → Tau → AnsV :=
    (vSeq (vAug 4 pIAdd (vC (.int 1)))
    (vSeq (vAsg (.nm 5) (vOp pAdd (vVar 0) (vCB qStr (vCons (vVar 4) vNil))))
    (vIfS (vBl (vOp pNotIn (vVar 5) (vVar 2))) (vAppend 3 (vVar 5)) vNext)))
noncomputable def c_numbered_texts_1 : PE → Tau → AP Bool :=
    (vBl (vOp pLt (vCB qLen (vCons (vVar 3) vNil)) (vVar 1)))
noncomputable def b_numbered_texts : PE → Tau → AnsV :=
    (vSeq (vAsgO 3 (vCB qLst vNil))
    (vSeq (vAsg (.nm 4) (vC (.int 0)))
    (vSeq (whileV (c_numbered_texts_1) (b_numbered_texts_1) fuel)
    (vRet (vCB qTuple (vCons (vVar 3) vNil))))))
theorem vb_numbered_texts {t s : Nat} : SimS t s [] (m_numbered_texts) (b_numbered_texts) :=
      (vs_seq (vs_asgO 3 (v_cbF cv_lst ls_lst va_nil))
      (vs_seq (vs_asg (.nm 4) (v_c fun _ _ => mInt'))
      (vs_seq (vs_while fuel (vt_bl (v_op ov_lt (v_cb cv_len (va_cons (v_var 3) va_nil)) (v_var 1))) (vs_seq (vs_aug 4 ov_iadd (v_c fun _ _ => mInt'))
      (vs_seq (vs_asg (.nm 5) (v_op ov_add (v_var 0) (v_cb cv_str (va_cons (v_var 4) va_nil))))
      (vs_if (vt_bl (v_op ov_notin (v_var 5) (v_var 2))) (vs_append 3 (v_var 5)) vs_next))))
      (vs_ret (v_cb cv_tuple (va_cons (v_var 3) va_nil))))))
noncomputable def V_numbered_texts : MirV := runV 3 6 (b_numbered_texts)
theorem vok_numbered_texts {t s : Nat} : VOk t s [] F_numbered_texts V_numbered_texts := vok_body (vb_numbered_texts)
noncomputable def b_sample_texts (g_numbered_texts : MirV) : PE → Tau → AnsV :=
    (vRet (vCall g_numbered_texts (vCons (vC (.str (Str.ofString "v"))) (vCons (vVar 0) (vCons (vVar 1) vNil)))))
theorem vb_sample_texts {t s : Nat} {f_numbered_texts : Mir} {g_numbered_texts : MirV} (O_numbered_texts : VOk t s [] f_numbered_texts g_numbered_texts) : SimS t s [] (m_sample_texts f_numbered_texts) (b_sample_texts g_numbered_texts) :=
      (vs_ret (v_call O_numbered_texts (va_cons (v_c fun _ _ => mStr') (va_cons (v_var 0) (va_cons (v_var 1) va_nil)))))
noncomputable def V_sample_texts : MirV := runV 2 2 (b_sample_texts V_numbered_texts)
theorem vok_sample_texts {t s : Nat} : VOk t s [] F_sample_texts V_sample_texts := vok_body (vb_sample_texts vok_numbered_texts)
noncomputable def b_many_text_rows_1 : PE → Tau → AnsV :=
    (vSeq (vAsg (.nm 5) (vOp pAdd (vVar 3) (vCB qLst (vCons (vC (.int 0)) vNil))))
    (vSeq (vAsg (.nm 6) (vOp pAdd (vCB qLst (vCons (vC (.int 0)) vNil)) (vVar 3)))
    (vAsg (.nm 3) (vLc (wvEnum (vCons (vVar 5) vNil)) (.tp [(.nm 7), (.nm 8)]) vTrue (vOp pAdd (vOp pMul (vOp pAdd (vVar 0) (vVar 7)) (vVar 8)) (vOp pIx (vVar 6) (vVar 7))) [7, 8]))))
noncomputable def b_many_text_rows : PE → Tau → AnsV :=
    (vSeq (vAsg (.nm 3) (vCB qLst (vCons (vC (.int 1)) vNil)))
    (vSeq (vFor (wvRange (vCons (vVar 1) vNil)) (.nm 4) (b_many_text_rows_1))
    (vRet (vOp pIx (vVar 3) (vVar 2)))))
theorem vb_many_text_rows {t s : Nat} : SimS t s [] (m_many_text_rows) (b_many_text_rows) :=
      (vs_seq (vs_asg (.nm 3) (v_cbF cv_lst ls_lst (va_cons (v_c fun _ _ => mInt') va_nil)).e)
      (vs_seq (vs_for (.nm 4) (wv_range (va_cons (v_var 1) va_nil)) (vs_seq (vs_asg (.nm 5) (v_op ov_add (v_var 3) (v_cbF cv_lst ls_lst (va_cons (v_c fun _ _ => mInt') va_nil)).e))
      (vs_seq (vs_asg (.nm 6) (v_op ov_add (v_cbF cv_lst ls_lst (va_cons (v_c fun _ _ => mInt') va_nil)).e (v_var 3)))
      (vs_asg (.nm 3) (v_lc (.tp [(.nm 7), (.nm 8)]) [7, 8] (wv_enum (va_cons (v_var 5) va_nil)) vt_tr (v_op ov_add (v_op ov_mul (v_op ov_add (v_var 0) (v_var 7)) (v_var 8)) (v_op ov_ix (v_var 6) (v_var 7)))).e))))
      (vs_ret (v_op ov_ix (v_var 3) (v_var 2)))))
noncomputable def V_many_text_rows : MirV := runV 3 9 (b_many_text_rows)
theorem vok_many_text_rows {t s : Nat} : VOk t s [] F_many_text_rows V_many_text_rows := vok_body (vb_many_text_rows)
noncomputable def b_with_text_2 : PE → Tau → AnsV :=
    (vAppend 4 (vCB qTup (vCons (vOp pAdd (vVar 5) (vCB qTup (vCons (vVar 8) vNil))) (vCons (vVar 6) vNil))))
noncomputable def b_with_text_1 : PE → Tau → AnsV :=
    (vSeq (vAsg (.nm 7) (vOp pSub (vCB qLen (vCons (vVar 2) vNil)) (vVar 6)))
    (vSeq (vIfS (vBl (vOp pLe (vVar 7) (vVar 3))) (vFor (wvSeqC (vOp pAdd (vVar 1) (vSl (vVar 2) none (some (vVar 6))))) (.nm 8) (b_with_text_2)) vNext)
    (vIfS (vChn pLt pLe (vC (.int 0)) (vVar 7) (vOp pAdd (vVar 3) (vC (.int 1)))) (vAppend 4 (vCB qTup (vCons (vOp pAdd (vVar 5) (vCB qTup (vCons (vOp pIx (vVar 2) (vVar 6)) vNil))) (vCons (vOp pAdd (vVar 6) (vC (.int 1))) vNil)))) vNext)))
noncomputable def b_with_text : PE → Tau → AnsV :=
    (vSeq (vAsgO 4 (vCB qLst vNil))
    (vSeq (vFor (wvSeqC (vVar 0)) (.tp [(.nm 5), (.nm 6)]) (b_with_text_1))
    (vRet (vVar 4))))
theorem vb_with_text {t s : Nat} : SimS t s [] (m_with_text) (b_with_text) :=
      (vs_seq (vs_asgO 4 (v_cbF cv_lst ls_lst va_nil))
      (vs_seq (vs_for (.tp [(.nm 5), (.nm 6)]) (wv_seqC (v_var 0)) (vs_seq (vs_asg (.nm 7) (v_op ov_sub (v_cb cv_len (va_cons (v_var 2) va_nil)) (v_var 6)))
      (vs_seq (vs_if (vt_bl (v_op ov_le (v_var 7) (v_var 3))) (vs_for (.nm 8) (wv_seqC (v_op ov_add (v_var 1) (v_sl (v_var 2) vo_none (vo_some (v_var 6))))) (vs_append 4 (v_cb cv_tup (va_cons (v_op ov_add (v_var 5) (v_cb cv_tup (va_cons (v_var 8) va_nil))) (va_cons (v_var 6) va_nil))))) vs_next)
      (vs_if (vt_chn ov_lt ov_le (v_c fun _ _ => mInt') (v_var 7) (v_op ov_add (v_var 3) (v_c fun _ _ => mInt'))) (vs_append 4 (v_cb cv_tup (va_cons (v_op ov_add (v_var 5) (v_cb cv_tup (va_cons (v_op ov_ix (v_var 2) (v_var 6)) va_nil))) (va_cons (v_op ov_add (v_var 6) (v_c fun _ _ => mInt')) va_nil)))) vs_next))))
      (vs_ret (v_var 4))))
noncomputable def V_with_text : MirV := runV 4 9 (b_with_text)
theorem vok_with_text {t s : Nat} : VOk t s [] F_with_text V_with_text := vok_body (vb_with_text)
noncomputable def b_text_rows_1 (g_with_text : MirV) (g_sample_texts : MirV) (g_many_text_rows : MirV) : PE → Tau → AnsV :=
    (vAsg (.nm 5) (vCall g_with_text (vCons (vVar 5) (vCons (vVar 0) (vCons (vVar 4) (vCons (vVar 6) vNil))))))
noncomputable def b_text_rows (g_with_text : MirV) (g_sample_texts : MirV) (g_many_text_rows : MirV) : PE → Tau → AnsV :=
    (vSeq (vAsg (.nm 3) (vCall g_many_text_rows (vCons (vCB qLen (vCons (vVar 0) vNil)) (vCons (vVar 1) (vCons (vVar 2) vNil)))))
    (vSeq (vIfS (vBl (vOp pGt (vVar 3) (vC (.int 300)))) (vRaise "TooManyCases" ["count"] (vCons (vVar 3) vNil)) vNext)
    (vSeq (vAsg (.nm 4) (vCallK g_sample_texts 1 1 (vCons (vVar 2) vNil) (vCons (vVar 0) vNil)))
    (vSeq (vAsg (.nm 5) (vCB qLst (vCons (vCB qTup (vCons (vCB qTup vNil) (vCons (vC (.int 0)) vNil))) vNil)))
    (vSeq (vFor (wvRngR (vVar 1)) (.nm 6) (b_text_rows_1 g_with_text g_sample_texts g_many_text_rows))
    (vRet (vCB qTuple (vCons (vLc (wvSeq (vVar 5)) (.tp [(.nm 7), (.nm 8)]) vTrue (vVar 7) [7, 8]) vNil))))))))
theorem vb_text_rows {t s : Nat} {f_with_text : Mir} {g_with_text : MirV} (O_with_text : VOk t s [] f_with_text g_with_text) {f_sample_texts : Mir} {g_sample_texts : MirV} (O_sample_texts : VOk t s [] f_sample_texts g_sample_texts) {f_many_text_rows : Mir} {g_many_text_rows : MirV} (O_many_text_rows : VOk t s [] f_many_text_rows g_many_text_rows) : SimS t s [] (m_text_rows f_with_text f_sample_texts f_many_text_rows) (b_text_rows g_with_text g_sample_texts g_many_text_rows) :=
      (vs_seq (vs_asg (.nm 3) (v_call O_many_text_rows (va_cons (v_cb cv_len (va_cons (v_var 0) va_nil)) (va_cons (v_var 1) (va_cons (v_var 2) va_nil)))))
      (vs_seq (vs_if (vt_bl (v_op ov_gt (v_var 3) (v_c fun _ _ => mInt'))) (vs_raise "TooManyCases" ["count"] (va_cons (v_var 3) va_nil)) vs_next)
      (vs_seq (vs_asg (.nm 4) (v_callK O_sample_texts (va_cons (v_var 2) va_nil) (va_cons (v_var 0) va_nil)))
      (vs_seq (vs_asg (.nm 5) (v_cbF cv_lst ls_lst (va_cons (v_cb cv_tup (va_cons (v_cb cv_tup va_nil) (va_cons (v_c fun _ _ => mInt') va_nil))) va_nil)).e)
      (vs_seq (vs_for (.nm 6) (wv_rngR (v_var 1)) (vs_asg (.nm 5) (v_call O_with_text (va_cons (v_var 5) (va_cons (v_var 0) (va_cons (v_var 4) (va_cons (v_var 6) va_nil)))))))
      (vs_ret (v_cb cv_tuple (va_cons (v_lc (.tp [(.nm 7), (.nm 8)]) [7, 8] (wv_seq (v_var 5)) vt_tr (v_var 7)).e va_nil))))))))
noncomputable def V_text_rows : MirV := runV 3 9 (b_text_rows V_with_text V_sample_texts V_many_text_rows)
theorem vok_text_rows {t s : Nat} : VOk t s [] F_text_rows V_text_rows := vok_body (vb_text_rows vok_with_text vok_sample_texts vok_many_text_rows)
/-MANUAL _law_draw-/
noncomputable def b__law_texts_1 (g__law_draw : MirV) : PE → Tau → AnsV :=
    (vSeq (vAsg (.nm 5) (vCall g__law_draw (vCons (vVar 0) (vCons (vC (.int 480)) vNil))))
    (vSeq (vAsg (.nm 6) (vOp pIx (vVar 2) (vOp pMod (vCB qInt (vCons (vVar 5) vNil)) (vC (.int 12)))))
    (vSeq (vIfS (vBl (vOp pEq (vOp pMod (vCB qInt (vCons (vOp pFdiv (vVar 5) (vC (.int 12))) vNil)) (vC (.int 3))) (vC (.int 0)))) (vAsg (.nm 6) (vOp pAdd (vSl (vVar 6) none (some (vC (.int 3)))) (vOp pMul (vOp pIx (vC (.str (Str.ofString "~A0z"))) (vOp pMod (vCB qInt (vCons (vOp pFdiv (vVar 5) (vC (.int 36))) vNil)) (vC (.int 4)))) (vOp pAdd (vC (.int 1)) (vCB qInt (vCons (vOp pFdiv (vVar 5) (vC (.int 144))) vNil)))))) vNext)
    (vSeq (vIfS (vBl (vOp pIn (vVar 6) (vVar 3))) (vAsg (.nm 6) (vOp pAdd (vC (.str (Str.ofString "w"))) (vCB qStr (vCons (vVar 4) vNil)))) vNext)
    (vAppend 3 (vVar 6))))))
noncomputable def b__law_texts (g__law_draw : MirV) : PE → Tau → AnsV :=
    (vSeq (vAsg (.nm 2) (vCB qLst (vCons (vC (.str (Str.ofString ""))) (vCons (vC (.str (Str.ofString "v1"))) (vCons (vC (.str (Str.ofString "v2"))) (vCons (vC (.str (Str.ofString "c1"))) (vCons (vC (.str (Str.ofString "b"))) (vCons (vC (.str (Str.ofString "v3"))) (vCons (vC (.str (Str.ofString "x y"))) (vCons (vC (.str (Str.ofString "null"))) (vCons (vC (.str (Str.ofString "c2"))) (vCons (vC (.str (Str.ofString "V1"))) (vCons (vC (.str (Str.ofString "v10"))) (vCons (vC (.str (Str.ofString "p1"))) vNil))))))))))))))
    (vSeq (vAsgO 3 (vCB qLst vNil))
    (vSeq (vFor (wvRange (vCons (vVar 1) vNil)) (.nm 4) (b__law_texts_1 g__law_draw))
    (vRet (vVar 3)))))
theorem vb__law_texts {t s : Nat} {f__law_draw : Mir} {g__law_draw : MirV} (O__law_draw : VOk t s [] f__law_draw g__law_draw) : SimS t s [] (m__law_texts f__law_draw) (b__law_texts g__law_draw) :=
      (vs_seq (vs_asg (.nm 2) (v_cbF cv_lst ls_lst (va_cons (v_c fun _ _ => mStr') (va_cons (v_c fun _ _ => mStr') (va_cons (v_c fun _ _ => mStr') (va_cons (v_c fun _ _ => mStr') (va_cons (v_c fun _ _ => mStr') (va_cons (v_c fun _ _ => mStr') (va_cons (v_c fun _ _ => mStr') (va_cons (v_c fun _ _ => mStr') (va_cons (v_c fun _ _ => mStr') (va_cons (v_c fun _ _ => mStr') (va_cons (v_c fun _ _ => mStr') (va_cons (v_c fun _ _ => mStr') va_nil))))))))))))).e)
      (vs_seq (vs_asgO 3 (v_cbF cv_lst ls_lst va_nil))
      (vs_seq (vs_for (.nm 4) (wv_range (va_cons (v_var 1) va_nil)) (vs_seq (vs_asg (.nm 5) (v_call O__law_draw (va_cons (v_var 0) (va_cons (v_c fun _ _ => mInt') va_nil))))
      (vs_seq (vs_asg (.nm 6) (v_op ov_ix (v_var 2) (v_op ov_mod (v_cb cv_int (va_cons (v_var 5) va_nil)) (v_c fun _ _ => mInt'))))
      (vs_seq (vs_if (vt_bl (v_op ov_eq (v_op ov_mod (v_cb cv_int (va_cons (v_op ov_fdiv (v_var 5) (v_c fun _ _ => mInt')) va_nil)) (v_c fun _ _ => mInt')) (v_c fun _ _ => mInt'))) (vs_asg (.nm 6) (v_op ov_add (v_sl (v_var 6) vo_none (vo_some (v_c fun _ _ => mInt'))) (v_op ov_mul (v_op ov_ix (v_c fun _ _ => mStr') (v_op ov_mod (v_cb cv_int (va_cons (v_op ov_fdiv (v_var 5) (v_c fun _ _ => mInt')) va_nil)) (v_c fun _ _ => mInt'))) (v_op ov_add (v_c fun _ _ => mInt') (v_cb cv_int (va_cons (v_op ov_fdiv (v_var 5) (v_c fun _ _ => mInt')) va_nil)))))) vs_next)
      (vs_seq (vs_if (vt_bl (v_op ov_in (v_var 6) (v_var 3))) (vs_asg (.nm 6) (v_op ov_add (v_c fun _ _ => mStr') (v_cb cv_str (va_cons (v_var 4) va_nil)))) vs_next)
      (vs_append 3 (v_var 6)))))))
      (vs_ret (v_var 3)))))
noncomputable def V__law_texts : MirV := runV 2 7 (b__law_texts V__law_draw)
theorem vok__law_texts {t s : Nat} : VOk t s [] F__law_texts V__law_texts := vok_body (vb__law_texts vok__law_draw)
noncomputable def b__law_fresh : PE → Tau → AnsV :=
    (vSeq (vAsg (.nm 3) (vLc (wvRange (vCons (vOp pAdd (vVar 2) (vCB qLen (vCons (vVar 1) vNil))) vNil)) (.nm 4) vTrue (vOp pAdd (vVar 0) (vCB qStr (vCons (vOp pAdd (vVar 4) (vC (.int 1))) vNil))) [4]))
    (vRet (vSl (vLc (wvSeq (vVar 3)) (.nm 5) (vBl (vOp pNotIn (vVar 5) (vVar 1))) (vVar 5) [5]) none (some (vVar 2)))))
theorem vb__law_fresh {t s : Nat} : SimS t s [] (m__law_fresh) (b__law_fresh) :=
      (vs_seq (vs_asg (.nm 3) (v_lc (.nm 4) [4] (wv_range (va_cons (v_op ov_add (v_var 2) (v_cb cv_len (va_cons (v_var 1) va_nil))) va_nil)).w vt_tr (v_op ov_add (v_var 0) (v_cb cv_str (va_cons (v_op ov_add (v_var 4) (v_c fun _ _ => mInt')) va_nil)))).e)
      (vs_ret (v_sl (v_lc (.nm 5) [5] (wv_seq (v_var 3)) (vt_bl (v_op ov_notin (v_var 5) (v_var 1))) (v_var 5)).e vo_none (vo_some (v_var 2)))))
noncomputable def V__law_fresh : MirV := runV 3 6 (b__law_fresh)
theorem vok__law_fresh {t s : Nat} : VOk t s [] F__law_fresh V__law_fresh := vok_body (vb__law_fresh)
noncomputable def b__law_same : PE → Tau → AnsV :=
    (vSeq (vIfS (vOr (vBl (vOp pNe (vIsi "tuple" (vVar 0)) (vIsi "tuple" (vVar 1)))) (vBl (vOp pNe (vIsi "bool" (vVar 0)) (vIsi "bool" (vVar 1))))) (vRet (vC (.bl false))) vNext)
    (vRet (vAndV (vOp pEq (vVar 0) (vVar 1)) (vOp pEq (vCB qRepr (vCons (vVar 0) vNil)) (vCB qRepr (vCons (vVar 1) vNil))))))
theorem vb__law_same {t s : Nat} : SimS t s [] (m__law_same) (b__law_same) :=
      (vs_seq (vs_if (vt_or (vt_bl (v_op ov_ne (v_isi "tuple" (v_var 0)) (v_isi "tuple" (v_var 1)))) (vt_bl (v_op ov_ne (v_isi "bool" (v_var 0)) (v_isi "bool" (v_var 1))))) (vs_ret (v_c fun _ _ => mBl')) vs_next)
      (vs_ret (v_and (v_op ov_eq (v_var 0) (v_var 1)) (v_op ov_eq (v_cb cv_repr (va_cons (v_var 0) va_nil)) (v_cb cv_repr (va_cons (v_var 1) va_nil))))))
noncomputable def V__law_same : MirV := runV 2 2 (b__law_same)
theorem vok__law_same {t s : Nat} : VOk t s [] F__law_same V__law_same := vok_body (vb__law_same)
noncomputable def b__law_ways_2 : PE → Tau → AnsV :=
    (vSetI 4 (vOp pAdd (vOp pIx (vVar 4) (vVar 5)) (vOp pMul (vOp pAdd (vVar 0) (vVar 5)) (vOp pIx (vVar 2) (vVar 5)))) (vVar 5))
noncomputable def b__law_ways_1 : PE → Tau → AnsV :=
    (vSeq (vAsgO 4 (vOp pCat (vCB qLst (vCons (vC (.int 0)) vNil)) (vVar 2)))
    (vSeq (vFor (wvRange (vCons (vCB qLen (vCons (vVar 2) vNil)) vNil)) (.nm 5) (b__law_ways_2))
    (vThaw 4 (vAsg (.nm 2) (vVar 4)))))
noncomputable def b__law_ways : PE → Tau → AnsV :=
    (vSeq (vAsg (.nm 2) (vCB qLst (vCons (vC (.int 1)) vNil)))
    (vSeq (vFor (wvRange (vCons (vVar 1) vNil)) (.nm 3) (b__law_ways_1))
    (vRet (vVar 2))))
theorem vb__law_ways {t s : Nat} : SimS t s [] (m__law_ways) (b__law_ways) :=
      (vs_seq (vs_asg (.nm 2) (v_cbF cv_lst ls_lst (va_cons (v_c fun _ _ => mInt') va_nil)).e)
      (vs_seq (vs_for (.nm 3) (wv_range (va_cons (v_var 1) va_nil)) (vs_seq (vs_asgO 4 (v_opF ov_cat ls_cat (v_cbF cv_lst ls_lst (va_cons (v_c fun _ _ => mInt') va_nil)).e (v_var 2)))
      (vs_seq (vs_for (.nm 5) (wv_range (va_cons (v_cb cv_len (va_cons (v_var 2) va_nil)) va_nil)) (vs_setI 4 (v_op ov_add (v_op ov_ix (v_var 4) (v_var 5)) (v_op ov_mul (v_op ov_add (v_var 0) (v_var 5)) (v_op ov_ix (v_var 2) (v_var 5)))) (v_var 5)))
      (vs_thaw 4 (vs_asg (.nm 2) (v_var 4))))))
      (vs_ret (v_var 2))))
noncomputable def V__law_ways : MirV := runV 2 6 (b__law_ways)
theorem vok__law_ways {t s : Nat} : VOk t s [] F__law_ways V__law_ways := vok_body (vb__law_ways)
noncomputable def b__law_text_rows_3 (g__law_fresh : MirV) : PE → Tau → AnsV :=
    (vSeq (vAsg (.nm 10) (vOp pAdd (vOp pIx (vVar 7) (vC (.int 1))) (vCB qInt (vCons (vOp pEq (vVar 9) (vOp pSub (vCB qLen (vCons (vVar 8) vNil)) (vC (.int 1)))) vNil))))
    (vIfS (vAnd (vBl (vOp pLe (vVar 10) (vVar 2))) (vBl (vOp pGe (vOp pSub (vOp pSub (vOp pAdd (vVar 10) (vVar 1)) (vVar 5)) (vC (.int 1))) (vVar 2)))) (vAppend 6 (vCB qTup (vCons (vOp pAdd (vOp pIx (vVar 7) (vC (.int 0))) (vCB qTup (vCons (vOp pIx (vVar 8) (vVar 9)) vNil))) (vCons (vVar 10) vNil)))) vNext))
noncomputable def b__law_text_rows_2 (g__law_fresh : MirV) : PE → Tau → AnsV :=
    (vSeq (vAsg (.nm 8) (vOp pAdd (vCB qList (vCons (vVar 0) vNil)) (vSl (vVar 3) none (some (vOp pAdd (vOp pIx (vVar 7) (vC (.int 1))) (vC (.int 1)))))))
    (vFor (wvRange (vCons (vCB qLen (vCons (vVar 8) vNil)) vNil)) (.nm 9) (b__law_text_rows_3 g__law_fresh)))
noncomputable def b__law_text_rows_1 (g__law_fresh : MirV) : PE → Tau → AnsV :=
    (vSeq (vAsgO 6 (vCB qLst vNil))
    (vSeq (vFor (wvSeqC (vCB qList (vCons (vVar 4) vNil))) (.nm 7) (b__law_text_rows_2 g__law_fresh))
    (vThaw 6 (vAsg (.nm 4) (vVar 6)))))
noncomputable def b__law_text_rows (g__law_fresh : MirV) : PE → Tau → AnsV :=
    (vSeq (vAsg (.nm 3) (vCall g__law_fresh (vCons (vC (.str (Str.ofString "v"))) (vCons (vVar 0) (vCons (vOp pAdd (vVar 2) (vC (.int 1))) vNil)))))
    (vSeq (vAsg (.nm 4) (vCB qLst (vCons (vCB qTup (vCons (vCB qTup vNil) (vCons (vC (.int 0)) vNil))) vNil)))
    (vSeq (vFor (wvRange (vCons (vVar 1) vNil)) (.nm 5) (b__law_text_rows_1 g__law_fresh))
    (vRet (vLc (wvSeq (vVar 4)) (.nm 7) vTrue (vOp pIx (vVar 7) (vC (.int 0))) [7])))))
theorem vb__law_text_rows {t s : Nat} {f__law_fresh : Mir} {g__law_fresh : MirV} (O__law_fresh : VOk t s [] f__law_fresh g__law_fresh) : SimS t s [] (m__law_text_rows f__law_fresh) (b__law_text_rows g__law_fresh) :=
      (vs_seq (vs_asg (.nm 3) (v_call O__law_fresh (va_cons (v_c fun _ _ => mStr') (va_cons (v_var 0) (va_cons (v_op ov_add (v_var 2) (v_c fun _ _ => mInt')) va_nil)))))
      (vs_seq (vs_asg (.nm 4) (v_cbF cv_lst ls_lst (va_cons (v_cb cv_tup (va_cons (v_cb cv_tup va_nil) (va_cons (v_c fun _ _ => mInt') va_nil))) va_nil)).e)
      (vs_seq (vs_for (.nm 5) (wv_range (va_cons (v_var 1) va_nil)) (vs_seq (vs_asgO 6 (v_cbF cv_lst ls_lst va_nil))
      (vs_seq (vs_for (.nm 7) (wv_seqC (v_cbF cv_list ls_list (va_cons (v_var 4) va_nil)).e) (vs_seq (vs_asg (.nm 8) (v_op ov_add (v_cbF cv_list ls_list (va_cons (v_var 0) va_nil)).e (v_sl (v_var 3) vo_none (vo_some (v_op ov_add (v_op ov_ix (v_var 7) (v_c fun _ _ => mInt')) (v_c fun _ _ => mInt'))))))
      (vs_for (.nm 9) (wv_range (va_cons (v_cb cv_len (va_cons (v_var 8) va_nil)) va_nil)) (vs_seq (vs_asg (.nm 10) (v_op ov_add (v_op ov_ix (v_var 7) (v_c fun _ _ => mInt')) (v_cb cv_int (va_cons (v_op ov_eq (v_var 9) (v_op ov_sub (v_cb cv_len (va_cons (v_var 8) va_nil)) (v_c fun _ _ => mInt'))) va_nil))))
      (vs_if (vt_and (vt_bl (v_op ov_le (v_var 10) (v_var 2))) (vt_bl (v_op ov_ge (v_op ov_sub (v_op ov_sub (v_op ov_add (v_var 10) (v_var 1)) (v_var 5)) (v_c fun _ _ => mInt')) (v_var 2)))) (vs_append 6 (v_cb cv_tup (va_cons (v_op ov_add (v_op ov_ix (v_var 7) (v_c fun _ _ => mInt')) (v_cb cv_tup (va_cons (v_op ov_ix (v_var 8) (v_var 9)) va_nil))) (va_cons (v_var 10) va_nil)))) vs_next)))))
      (vs_thaw 6 (vs_asg (.nm 4) (v_var 6))))))
      (vs_ret (v_lc (.nm 7) [7] (wv_seq (v_var 4)) vt_tr (v_op ov_ix (v_var 7) (v_c fun _ _ => mInt'))).e))))
noncomputable def V__law_text_rows : MirV := runV 3 11 (b__law_text_rows V__law_fresh)
theorem vok__law_text_rows {t s : Nat} : VOk t s [] F__law_text_rows V__law_text_rows := vok_body (vb__law_text_rows vok__law_fresh)
noncomputable def b__law_told (g_text_rows : MirV) : PE → Tau → AnsV :=
    (vTry (vRet (vCall g_text_rows (vCons (vVar 0) (vCons (vVar 1) (vCons (vVar 2) vNil))))) [⟨[("TooManyCases", true)], some 3, (vRet (vCB qTup (vCons (vC (.str (Str.ofString "many"))) (vCons (vXf ["TooManyCases"] "count" (vVar 3)) (vCons (vAndV (vXi [("TooManyCases", true)] (vVar 3)) (vXi [("TooManyCases", true)] (vVar 3))) vNil)))))⟩])
theorem vb__law_told {t s : Nat} {f_text_rows : Mir} {g_text_rows : MirV} (O_text_rows : VOk t s [] f_text_rows g_text_rows) : SimS t s [] (m__law_told f_text_rows) (b__law_told g_text_rows) :=
      (vs_try (vs_ret (v_call O_text_rows (va_cons (v_var 0) (va_cons (v_var 1) (va_cons (v_var 2) va_nil))))) (.cons (vs_ret (v_cb cv_tup (va_cons (v_c fun _ _ => mStr') (va_cons (v_xf ["TooManyCases"] "count" (v_var 3)) (va_cons (v_and (v_xi [("TooManyCases", true)] (v_var 3)) (v_xi [("TooManyCases", true)] (v_var 3))) va_nil))))) .nil))
noncomputable def V__law_told : MirV := runV 3 4 (b__law_told V_text_rows)
theorem vok__law_told {t s : Nat} : VOk t s [] F__law_told V__law_told := vok_body (vb__law_told vok_text_rows)
noncomputable def t_law_9 (g__law_same : MirV) (g__law_text_rows : MirV) (g__law_told : MirV) (g_many_text_rows : MirV) (g__law_ways : MirV) (g__law_draw : MirV) (g__law_texts : MirV) : PE → Tau → AnsV :=
    (vRet (vCall g__law_same (vCons (vCall g__law_told (vCons (vCB qTuple (vCons (vVar 2) vNil)) (vCons (vVar 3) (vCons (vVar 5) vNil)))) (vCons (vCB qTuple (vCons (vCall g__law_text_rows (vCons (vVar 2) (vCons (vVar 3) (vCons (vVar 5) vNil)))) vNil)) vNil))))
noncomputable def t_law_8 (g__law_same : MirV) (g__law_text_rows : MirV) (g__law_told : MirV) (g_many_text_rows : MirV) (g__law_ways : MirV) (g__law_draw : MirV) (g__law_texts : MirV) : PE → Tau → AnsV :=
    (vSeq (vIfS (vBl (vOp pGt (vVar 6) (vC (.int 300)))) (vRet (vCall g__law_same (vCons (vCall g__law_told (vCons (vCB qTuple (vCons (vVar 2) vNil)) (vCons (vVar 3) (vCons (vVar 5) vNil)))) (vCons (vCB qTup (vCons (vC (.str (Str.ofString "many"))) (vCons (vVar 6) (vCons (vC (.bl true)) vNil)))) vNil)))) vNext)
    (t_law_9 g__law_same g__law_text_rows g__law_told g_many_text_rows g__law_ways g__law_draw g__law_texts))
noncomputable def b_law_1 (g__law_same : MirV) (g__law_text_rows : MirV) (g__law_told : MirV) (g_many_text_rows : MirV) (g__law_ways : MirV) (g__law_draw : MirV) (g__law_texts : MirV) : PE → Tau → AnsV :=
    (vIfS (vBl (vOp pGt (vCB qSum (vCons (vCall g__law_ways (vCons (vCB qLen (vCons (vVar 2) vNil)) (vCons (vVar 3) vNil))) vNil)) (vC (.int 100000)))) (vAsg (.nm 3) (vOp pSub (vVar 3) (vC (.int 1)))) vNext)
noncomputable def t_law_3 (g__law_same : MirV) (g__law_text_rows : MirV) (g__law_told : MirV) (g_many_text_rows : MirV) (g__law_ways : MirV) (g__law_draw : MirV) (g__law_texts : MirV) : PE → Tau → AnsV :=
    (vSeq (vFor (wvRange (vCons (vC (.int 8)) vNil)) (.nm 4) (b_law_1 g__law_same g__law_text_rows g__law_told g_many_text_rows g__law_ways g__law_draw g__law_texts))
    (vSeq (vAsg (.nm 5) (vCall g__law_draw (vCons (vVar 1) (vCons (vOp pAdd (vVar 3) (vC (.int 1))) vNil))))
    (vSeq (vAsg (.nm 6) (vOp pIx (vCall g__law_ways (vCons (vCB qLen (vCons (vVar 2) vNil)) (vCons (vVar 3) vNil))) (vVar 5)))
    (vSeq (vAsg (.nm 7) (vCall g_many_text_rows (vCons (vCB qLen (vCons (vVar 2) vNil)) (vCons (vVar 3) (vCons (vVar 5) vNil)))))
    (vSeq (vIfS (vOr (vNot (vTru (vIsi "int" (vVar 7)))) (vOr (vTru (vIsi "bool" (vVar 7))) (vBl (vOp pNe (vVar 7) (vVar 6))))) (vRet (vC (.bl false))) vNext)
    (t_law_8 g__law_same g__law_text_rows g__law_told g_many_text_rows g__law_ways g__law_draw g__law_texts))))))
noncomputable def b_law (g__law_same : MirV) (g__law_text_rows : MirV) (g__law_told : MirV) (g_many_text_rows : MirV) (g__law_ways : MirV) (g__law_draw : MirV) (g__law_texts : MirV) : PE → Tau → AnsV :=
    (vSeq (vAsg (.nm 2) (vCall g__law_texts (vCons (vVar 1) (vCons (vCall g__law_draw (vCons (vVar 1) (vCons (vC (.int 5)) vNil))) vNil))))
    (vSeq (vAsg (.nm 3) (vOp pIx (vCB qLst (vCons (vC (.int 0)) (vCons (vC (.int 1)) (vCons (vC (.int 1)) (vCons (vC (.int 2)) (vCons (vC (.int 2)) (vCons (vC (.int 3)) (vCons (vC (.int 4)) (vCons (vOp pAdd (vC (.int 5)) (vCall g__law_draw (vCons (vVar 1) (vCons (vC (.int 4)) vNil)))) vNil))))))))) (vCall g__law_draw (vCons (vVar 1) (vCons (vC (.int 8)) vNil)))))
    (vSeq (vIfS (vBl (vOp pEq (vCall g__law_draw (vCons (vVar 1) (vCons (vC (.int 4)) vNil))) (vC (.int 0)))) (vAsg (.nm 2) (vOp pAdd (vVar 2) (vLc (wvRange (vCons (vCall g__law_draw (vCons (vVar 1) (vCons (vOp pSub (vC (.int 301)) (vCB qLen (vCons (vVar 2) vNil))) vNil))) vNil)) (.nm 8) vTrue (vOp pAdd (vC (.str (Str.ofString "s"))) (vCB qStr (vCons (vVar 8) vNil))) [8]))) vNext)
    (t_law_3 g__law_same g__law_text_rows g__law_told g_many_text_rows g__law_ways g__law_draw g__law_texts))))
theorem vb_law {t s : Nat} {f__law_same : Mir} {g__law_same : MirV} (O__law_same : VOk t s [] f__law_same g__law_same) {f__law_text_rows : Mir} {g__law_text_rows : MirV} (O__law_text_rows : VOk t s [] f__law_text_rows g__law_text_rows) {f__law_told : Mir} {g__law_told : MirV} (O__law_told : VOk t s [] f__law_told g__law_told) {f_many_text_rows : Mir} {g_many_text_rows : MirV} (O_many_text_rows : VOk t s [] f_many_text_rows g_many_text_rows) {f__law_ways : Mir} {g__law_ways : MirV} (O__law_ways : VOk t s [] f__law_ways g__law_ways) {f__law_draw : Mir} {g__law_draw : MirV} (O__law_draw : VOk t s [] f__law_draw g__law_draw) {f__law_texts : Mir} {g__law_texts : MirV} (O__law_texts : VOk t s [] f__law_texts g__law_texts) : ∃ R, m_law f__law_same f__law_text_rows f__law_told f_many_text_rows f__law_ways f__law_draw f__law_texts F__law_tape = sSeq (sAsg (.nm 1) (dCall F__law_tape (dCons (dVar 0) dNil))) R ∧ SimS t s [] R (b_law g__law_same g__law_text_rows g__law_told g_many_text_rows g__law_ways g__law_draw g__law_texts) := ⟨_, rfl,
      (vs_seq (vs_asg (.nm 2) (v_call O__law_texts (va_cons (v_var 1) (va_cons (v_call O__law_draw (va_cons (v_var 1) (va_cons (v_c fun _ _ => mInt') va_nil))) va_nil))))
      (vs_seq (vs_asg (.nm 3) (v_op ov_ix (v_cbF cv_lst ls_lst (va_cons (v_c fun _ _ => mInt') (va_cons (v_c fun _ _ => mInt') (va_cons (v_c fun _ _ => mInt') (va_cons (v_c fun _ _ => mInt') (va_cons (v_c fun _ _ => mInt') (va_cons (v_c fun _ _ => mInt') (va_cons (v_c fun _ _ => mInt') (va_cons (v_op ov_add (v_c fun _ _ => mInt') (v_call O__law_draw (va_cons (v_var 1) (va_cons (v_c fun _ _ => mInt') va_nil)))) va_nil))))))))).e (v_call O__law_draw (va_cons (v_var 1) (va_cons (v_c fun _ _ => mInt') va_nil)))))
      (vs_seq (vs_if (vt_bl (v_op ov_eq (v_call O__law_draw (va_cons (v_var 1) (va_cons (v_c fun _ _ => mInt') va_nil))) (v_c fun _ _ => mInt'))) (vs_asg (.nm 2) (v_op ov_add (v_var 2) (v_lc (.nm 8) [8] (wv_range (va_cons (v_call O__law_draw (va_cons (v_var 1) (va_cons (v_op ov_sub (v_c fun _ _ => mInt') (v_cb cv_len (va_cons (v_var 2) va_nil))) va_nil))) va_nil)).w vt_tr (v_op ov_add (v_c fun _ _ => mStr') (v_cb cv_str (va_cons (v_var 8) va_nil)))).e)) vs_next)
      (vs_seq (vs_for (.nm 4) (wv_range (va_cons (v_c fun _ _ => mInt') va_nil)) (vs_if (vt_bl (v_op ov_gt (v_cb cv_sum (va_cons (v_call O__law_ways (va_cons (v_cb cv_len (va_cons (v_var 2) va_nil)) (va_cons (v_var 3) va_nil))) va_nil)) (v_c fun _ _ => mInt'))) (vs_asg (.nm 3) (v_op ov_sub (v_var 3) (v_c fun _ _ => mInt'))) vs_next))
      (vs_seq (vs_asg (.nm 5) (v_call O__law_draw (va_cons (v_var 1) (va_cons (v_op ov_add (v_var 3) (v_c fun _ _ => mInt')) va_nil))))
      (vs_seq (vs_asg (.nm 6) (v_op ov_ix (v_call O__law_ways (va_cons (v_cb cv_len (va_cons (v_var 2) va_nil)) (va_cons (v_var 3) va_nil))) (v_var 5)))
      (vs_seq (vs_asg (.nm 7) (v_call O_many_text_rows (va_cons (v_cb cv_len (va_cons (v_var 2) va_nil)) (va_cons (v_var 3) (va_cons (v_var 5) va_nil)))))
      (vs_seq (vs_if (vt_or (vt_not (vt_of (v_isi "int" (v_var 7)))) (vt_or (vt_of (v_isi "bool" (v_var 7))) (vt_bl (v_op ov_ne (v_var 7) (v_var 6))))) (vs_ret (v_c fun _ _ => mBl')) vs_next)
      (vs_seq (vs_if (vt_bl (v_op ov_gt (v_var 6) (v_c fun _ _ => mInt'))) (vs_ret (v_call O__law_same (va_cons (v_call O__law_told (va_cons (v_cb cv_tuple (va_cons (v_var 2) va_nil)) (va_cons (v_var 3) (va_cons (v_var 5) va_nil)))) (va_cons (v_cb cv_tup (va_cons (v_c fun _ _ => mStr') (va_cons (v_var 6) (va_cons (v_c fun _ _ => mBl') va_nil)))) va_nil)))) vs_next)
      (vs_ret (v_call O__law_same (va_cons (v_call O__law_told (va_cons (v_cb cv_tuple (va_cons (v_var 2) va_nil)) (va_cons (v_var 3) (va_cons (v_var 5) va_nil)))) (va_cons (v_cb cv_tuple (va_cons (v_call O__law_text_rows (va_cons (v_var 2) (va_cons (v_var 3) (va_cons (v_var 5) va_nil)))) va_nil)) va_nil)))))))))))))⟩
noncomputable abbrev V_law : PE → Tau → AnsV := b_law V__law_same V__law_text_rows V__law_told V_many_text_rows V__law_ways V__law_draw V__law_texts
noncomputable abbrev T_law_3 : PE → Tau → AnsV := t_law_3 V__law_same V__law_text_rows V__law_told V_many_text_rows V__law_ways V__law_draw V__law_texts
theorem law_of (h : ∀ τ, retT (V_law (([none] ++ List.replicate 8 none).set 1 (some .tape)) τ) = true) : ∀ ns : List Int, ns.length ≤ 63 → ∃ S', F_law [.ref 0] [.rol (ns.map D.int)] = some (.ok (.bl true), S') := by
  intro ns _
  obtain ⟨R, e1, hR⟩ := vb_law (t := 2) (s := 1) vok__law_same vok__law_text_rows vok__law_told vok_many_text_rows vok__law_ways vok__law_draw vok__law_texts
  exact law_end (i := 1) (n := 9) (by decide) e1 hR h ns
end LW
namespace LW
open PySem PySem.Spec PyProof.Rows L2 RT RZ DL VL
/-! ### texts -/
theorem get12 {α : Type} {l : List α} {i : Int} (h0 : 0 ≤ i) (h : i < l.length) : ∃ x, atI l i = some x ∧ x ∈ l := by
  refine ⟨l[i.toNat], atI_of (k := i.toNat) (by omega) (by rw [List.getElem?_eq_getElem]), List.getElem_mem _⟩
theorem at_of {α : Type} {f : α → P} {l : List α} {i : Int} {x : α} (h : atI l i = some x) : atI (l.map f) i = some (f x) := by
  unfold atI at h ⊢
  rw [List.length_map]
  cases e : ixN l.length i with
  | none => rw [e] at h; cases h
  | some k =>
    rw [e] at h
    simp only [Option.bind_some, List.getElem?_map] at h ⊢
    first
      | rw [h]; rfl
      | simp [h]
theorem pMul_str (x : Str) (n : Int) (h : MulOk x n) : pMul (.str x) (.int n) = some (.str (Txt.mul x n)) := if_pos h
theorem pIx_str {x : Str} {i : Int} {c : Nat} (hl : x.length ≤ sizeLine) (h : atI x.cps.toList i = some c) : pIx (.str x) (.int i) = some (.str ⟨#[c]⟩) := by
  unfold pIx
  simp only
  rw [if_pos hl, h]
theorem len_app (x y : Str) : (x ++ y).length = x.length + y.length := by
  rw [TL.len_tl, TL.tl_append, List.length_append, ← TL.len_tl, ← TL.len_tl]
def SOk (x : Str) : Prop := PyData.strOk x = true
theorem sok_of {x : Str} (h : ∀ c ∈ TL.tl x, c < 0x110000) : SOk x := by
  unfold SOk PyData.strOk
  rw [← Array.all_toList, List.all_eq_true]
  intro c hc
  simpa using h c hc
theorem sok_to {x : Str} (h : SOk x) : ∀ c ∈ TL.tl x, c < 0x110000 := by
  unfold SOk PyData.strOk at h
  rw [← Array.all_toList, List.all_eq_true] at h
  intro c hc
  simpa using h c hc
end LW
namespace LW
open PySem PySem.Spec PyProof.Rows L2 RT RZ DL VL
/-! ### numbers as texts -/
def num (k : Nat) : Str := Str.ofString (toString ((k : Nat) : Int))
theorem num_inj {j k : Nat} (h : num j = num k) : j = k := by
  have e := congrArg TL.tl h
  unfold num at e
  rw [TL.tl_num, TL.tl_num] at e
  exact TL.numL_inj e
theorem num_len {k : Nat} (hk : k < 10 ^ 9) : (num k).length ≤ 10 := by
  unfold num
  rw [PySem.ofString_length]
  exact int_text_length_le10 (k := 9) (by decide) (by simpa using hk)
theorem qStr_num {k : Nat} (hk : k < 10 ^ 9) : qStr [.int (k : Int)] = some (.str (num k)) := by
  refine if_pos ?_
  have h2 : k.log2 ≤ 1000 := by
    by_cases h : k = 0
    · subst h
      decide
    · have := (Nat.log2_lt h).mpr (Nat.lt_of_lt_of_le hk (show 10 ^ 9 ≤ 2 ^ 40 by decide))
      omega
  show (Int.natAbs (k : Int)).log2 < 1920
  rw [Int.natAbs_natCast]
  omega
/-! ### texts whose signs are signs -/
theorem sok_app {x y : Str} (hx : SOk x) (hy : SOk y) : SOk (x ++ y) := sok_of fun c hc => by
  rw [TL.tl_append] at hc
  rcases List.mem_append.mp hc with h | h
  · exact sok_to hx c h
  · exact sok_to hy c h
theorem sok_num (k : Nat) : SOk (num k) := sok_of fun c hc => by
  unfold num at hc
  rw [TL.tl_num] at hc
  have := TL.numL_digits k c hc
  omega
theorem sok_lit {x : Str} (h : PyData.strOk x = true := by decide +kernel) : SOk x := h
/-! ### texts of a pool -/
/-- texts as wished: so many, different, none of those that are taken -/
structure WordsOk (tk L : List Str) (many : Nat) : Prop where
  len : L.length = many
  nd : L.Nodup
  tk : ∀ x ∈ L, x ∉ tk
  ok : ∀ x ∈ L, SOk x ∧ x.length ≤ 200
theorem WordsOk.nil {tk : List Str} : WordsOk tk [] 0 := ⟨rfl, List.nodup_nil, (fun x hx => by cases hx), (fun x hx => by cases hx)⟩
end LW
namespace LW
open PySem PySem.Spec PyProof.Rows L2 RT RZ DL VL
/-! ### steps in W's style -/
theorem draw_w {Q : P → Tau → Prop} {E : XP → Tau → Prop} {τ : Tau} {m : Int} (q : ∀ (k : Nat) (τ' : Tau), (k : Int) < m → Q (.int k) τ') (h : 0 < m := by decide) (h2 : m < 2 ^ 62 := by decide) : W (V__law_draw [.tape, .int m] τ) Q E := by
  obtain ⟨k, τ', e, hk⟩ := draw_lit τ m h h2
  exact W.of e (q k τ' hk)
theorem draw_wn {Q : P → Tau → Prop} {E : XP → Tau → Prop} {τ : Tau} {m : Nat} (q : ∀ (k : Nat) (τ' : Tau), k < m → Q (.int k) τ') (h : 0 < m := by omega) (h2 : m < 2 ^ 62 := by simp only [Nat.reducePow]; omega) : W (V__law_draw [.tape, .int (m : Int)] τ) Q E := by
  obtain ⟨k, τ', e, hk⟩ := draw_v τ h h2
  exact W.of e (q k τ' hk)
/-- one of some numbers -/
theorem at_nums {Q : P → Prop} {k : Nat} {l : List P} (ns : List Nat) (e : l = ns.map fun (n : Nat) => P.int (n : Int)) (h : k < ns.length) (q : ∀ n ∈ ns, Q (.int (n : Int))) : WO (atI l (k : Int)) Q := by
  subst e
  exact wo_atM h fun a ha => q a (List.mem_of_getElem? ha)
theorem law_w {b : PE → Tau → AnsV} {pe : PE} {τ : Tau} (h : WP b pe τ fun o _ _ => o = .rt (.bl true)) : retT (b pe τ) = true := by
  obtain ⟨o, pe', τ', e, rfl⟩ := h.ex
  rw [e]
  rfl
end LW
namespace LW
open PySem PySem.Spec PyProof.Rows L2 RT RZ DL VL
/-! ### cuts, the record that is spread out -/
theorem cutP_to {xs : List P} {k : Nat} (h : k ≤ xs.length) : cutP xs none (some (k : Int)) = xs.take k := by
  unfold cutP
  rw [HT.sIx_none, HT.sIx_nat, Nat.min_eq_left h]
  simp
end LW
namespace LW
open PySem PySem.Spec PyProof.Rows L2 RT RZ DL VL
/-! ### sample texts, alone -/
structure Smp (K : List Str) (S : Nat → List Str) : Prop where
  len : ∀ n, (S n).length = n
  nd : ∀ n, (S n).Nodup
  nK : ∀ n, ∀ x ∈ S n, x ∉ K
def sV : Str := Str.ofString "v"
theorem sV_ok : SOk sV ∧ sV.length = 1 := ⟨sok_lit, by decide +kernel⟩
def vS (k : Nat) : Str := sV ++ num k
theorem vS_inj {i j : Nat} (h : vS i = vS j) : i = j := by
  have e := congrArg TL.tl h
  unfold vS at e
  rw [TL.tl_append, TL.tl_append sV (num j), List.append_cancel_left_eq] at e
  exact num_inj (TL.ext_tl e)
theorem vS_ok (k : Nat) : SOk (vS k) := sok_app sV_ok.1 (sok_num k)
def smpL (K : List Str) (N : Nat) : List Str := ((List.range N).map fun k => vS (k + 1)).filter fun x => decide (x ∉ K)
theorem smpL_succ (K : List Str) (N : Nat) : smpL K (N + 1) = smpL K N ++ if vS (N + 1) ∉ K then [vS (N + 1)] else [] := by
  unfold smpL
  rw [List.range_succ, List.map_append, List.filter_append, List.map_singleton, List.filter_cons, List.filter_nil]
  by_cases c : vS (N + 1) ∈ K <;> simp [c]
theorem smpL_pre (K : List Str) (N d : Nat) : ∃ t, smpL K (N + d) = smpL K N ++ t := by
  induction d with
  | zero => exact ⟨[], by simp⟩
  | succ d ih =>
    obtain ⟨t, ht⟩ := ih
    exact ⟨t ++ _, by rw [show N + (d + 1) = N + d + 1 by omega, smpL_succ, ht, List.append_assoc]⟩
theorem vS_nodup (N : Nat) : ((List.range N).map fun k => vS (k + 1)).Nodup := by
  unfold List.Nodup
  rw [List.pairwise_map]
  exact (List.nodup_range (n := N)).imp fun h e => h (by have := vS_inj e; omega)
theorem smpL_nodup (K : List Str) (N : Nat) : (smpL K N).Nodup := (vS_nodup N).filter _
theorem out_len : ∀ (l K : List Str), l.Nodup → l.length ≤ (l.filter fun x => decide (x ∉ K)).length + K.length
  | [], K, _ => Nat.zero_le _
  | x :: l, K, h => by
    rw [List.nodup_cons] at h
    by_cases c : x ∈ K
    · have e : (l.filter fun z => decide (z ∉ K.erase x)) = l.filter fun z => decide (z ∉ K) := List.filter_congr fun z hz => by
        have ne : z ≠ x := fun q => h.1 (q ▸ hz)
        simp only [List.mem_erase_of_ne ne]
      have ih := out_len l (K.erase x) h.2
      rw [e, List.length_erase_of_mem c] at ih
      have hp := List.length_pos_of_mem c
      rw [List.filter_cons, if_neg (by simpa using c), List.length_cons]
      omega
    · have ih := out_len l K h.2
      rw [List.filter_cons, if_pos (by simpa using c), List.length_cons, List.length_cons]
      omega
theorem smpL_len (K : List Str) (N : Nat) : N ≤ (smpL K N).length + K.length := by
  have := out_len _ K (vS_nodup N)
  rw [List.length_map, List.length_range] at this
  exact this
def SS (K : List Str) (n : Nat) : List Str := (smpL K (n + K.length)).take n
theorem SS_ok (K : List Str) : Smp K (SS K) := ⟨fun n => by
  unfold SS
  rw [List.length_take]
  have := smpL_len K (n + K.length)
  omega, fun n => (smpL_nodup K _).sublist (List.take_sublist _ _), fun n x hx => by
  have := List.mem_of_mem_take hx
  unfold smpL at this
  simpa using (List.mem_filter.mp this).2⟩
theorem SS_of {K : List Str} {N n : Nat} (h : (smpL K N).length = n) (hN : N ≤ n + K.length) : SS K n = smpL K N := by
  obtain ⟨t, ht⟩ := smpL_pre K N (n + K.length - N)
  rw [show N + (n + K.length - N) = n + K.length by omega] at ht
  unfold SS
  rw [ht, List.take_append_of_le_length (by omega), List.take_of_length_le (by omega)]
/-! ### the loops -/
theorem whileV_rank {gc : PE → Tau → AP Bool} {gb : PE → Tau → AnsV} (Inv : Nat → PE → Tau → Prop) (Post : PE → Tau → Prop)
    (step : ∀ k pe τ, Inv k pe τ → (gc pe τ = some (.ok false, τ) ∧ Post pe τ) ∨ ∃ j pe2 τ2, k = j + 1 ∧ gc pe τ = some (.ok true, τ) ∧ gb pe τ = some (.nx, pe2, τ2) ∧ Inv j pe2 τ2) :
    ∀ (k n : Nat) (pe : PE) (τ : Tau), Inv k pe τ → k < n → ∃ pe' τ', whileV gc gb n pe τ = some (.nx, pe', τ') ∧ Post pe' τ'
  | k, 0, _, _, _, h => absurd h (Nat.not_lt_zero _)
  | k, n + 1, pe, τ, hI, hk => by
    unfold whileV
    rcases step k pe τ hI with ⟨h1, h2⟩ | ⟨j, pe2, τ2, rfl, h1, h2, h3⟩
    · rw [h1]
      exact ⟨pe, τ, rfl, h2⟩
    · obtain ⟨e', S', q1, q2⟩ := whileV_rank Inv Post step j n pe2 τ2 h3 (by omega)
      refine ⟨e', S', ?_, q2⟩
      rw [h1]
      simp only [bindSV, if_true, h2]
      exact q1
theorem pAdd_vS {k : Nat} (h : k < 10 ^ 9) : pAdd (.str sV) (.str (num k)) = some (.str (vS k)) := pAdd_str _ _ (by
  have h1 := sV_ok.2
  have h2 := num_len h
  have := line_big
  omega)
theorem qStr_succ {j : Nat} (h : j + 1 < 10 ^ 9) : qStr [.int ((j : Int) + 1)] = some (.str (num (j + 1))) := qStr_num h
set_option maxHeartbeats 2000000 in
theorem samples_v {K : List Str} {n : Nat} (τ : Tau) (hn : n ≤ 1000) (hK : K.length ≤ 1000) : V_sample_texts [.int n, .tup (K.map P.str)] τ = some (.ok (.tup ((SS K n).map P.str)), τ) := by
  obtain ⟨pe', τ', f1, N, u5, rfl, rfl, h1, h2⟩ := whileV_rank (gc := c_numbered_texts_1) (gb := b_numbered_texts_1)
    (fun k pe τ' => ∃ (N : Nat) (u5 : Option P), pe = [some (.str sV), some (.int n), some (.tup (K.map P.str)), some (.own ((smpL K N).map P.str)), some (.int N), u5] ∧ τ' = τ ∧ (smpL K N).length ≤ n ∧ N + k = n + K.length)
    (fun pe τ' => ∃ (N : Nat) (u5 : Option P), pe = [some (.str sV), some (.int n), some (.tup (K.map P.str)), some (.own ((smpL K N).map P.str)), some (.int N), u5] ∧ τ' = τ ∧ (smpL K N).length = n ∧ N ≤ n + K.length)
    (by
      rintro k pe τ' ⟨N, u5, rfl, rfl, h1, h2⟩
      by_cases c : (smpL K N).length < n
      · have hk : 0 < k := by
          have := smpL_len K N
          refine Nat.pos_of_ne_zero fun z => ?_
          omega
        obtain ⟨j, rfl⟩ : ∃ j, k = j + 1 := ⟨k - 1, by omega⟩
        have a1 := qStr_succ (j := N) (by omega)
        have a2 := pAdd_vS (k := N + 1) (by omega)
        have lz : (smpL K N).length < sizeLine := by have := line_big; omega
        have ci : ((smpL K N).length : Int) < n := by omega
        refine .inr ⟨j, [some (.str sV), some (.int n), some (.tup (K.map P.str)), some (.own ((smpL K (N + 1)).map P.str)), some (.int ((N + 1 : Nat) : Int)), some (.str (vS (N + 1)))], τ', rfl, by simp [c_numbered_texts_1, ci, c], ?_, N + 1, _, rfl, rfl, ?_, by omega⟩
        · rw [smpL_succ]
          by_cases g : vS (N + 1) ∈ K
          · simp [b_numbered_texts_1, pIAdd, a1, a2, g]
          · simp [b_numbered_texts_1, pIAdd, a1, a2, g, lz]
        · rw [smpL_succ, List.length_append]
          split <;> simp <;> omega
      · have ci : ¬ ((smpL K N).length : Int) < n := by omega
        exact .inl ⟨by simp [c_numbered_texts_1, ci, c], N, u5, rfl, rfl, by omega, by omega⟩)
    (n + K.length) fuel [some (.str sV), some (.int n), some (.tup (K.map P.str)), some (.own []), some (.int 0), none] τ ⟨0, none, rfl, rfl, Nat.zero_le _, by omega⟩ (by have := fuel_ge; omega)
  have e := SS_of h1 h2
  have f1' : whileV c_numbered_texts_1 b_numbered_texts_1 fuel [some (.str (Str.ofString "v")), some (.int n), some (.tup (K.map P.str)), some (.own []), some (.int 0), none] τ' = _ := f1
  rw [e]
  simp [V_sample_texts, b_sample_texts, V_numbered_texts, b_numbered_texts, f1']
theorem SS_take {K : List Str} {n N : Nat} (h : n ≤ N) : (SS K N).take n = SS K n := by
  obtain ⟨d, rfl⟩ : ∃ d, N = n + d := ⟨N - n, by omega⟩
  unfold SS
  obtain ⟨t, e⟩ := smpL_pre K (n + K.length) d
  rw [show n + d + K.length = n + K.length + d by omega, e, List.take_take, Nat.min_eq_left h]
  have hl := smpL_len K (n + K.length)
  rw [List.take_append_of_le_length (by omega)]
theorem SS_len (K : List Str) (n : Nat) : (SS K n).length = n := (SS_ok K).len n
theorem take_snoc' {α : Type} {l : List α} {u : Nat} {x : α} (h : l[u]? = some x) : l.take (u + 1) = l.take u ++ [x] := by rw [List.take_add_one, h]; rfl
theorem SS_get {K : List Str} {u N : Nat} (h : u < N) : ∃ s, (SS K N)[u]? = some s ∧ SS K (u + 1) = SS K u ++ [s] := by
  have hl := SS_len K N
  have g := List.getElem?_eq_getElem (l := SS K N) (i := u) (by omega)
  refine ⟨_, g, ?_⟩
  rw [← SS_take (K := K) (n := u + 1) (N := N) (by omega), take_snoc' g, SS_take (by omega)]
end LW
namespace LW
open PySem PySem.Spec PyProof.Rows L2 RT RZ DL VL
def PB (b : Nat) (l : List Int) : Prop := ∀ x ∈ l, x.natAbs < 2 ^ b
theorem PB.get {b : Nat} {l : List Int} (h : PB b l) (j : Nat) : (l.getD j 0).natAbs < 2 ^ b := by
  rw [List.getD_eq_getElem?_getD]
  cases e : l[j]? with
  | none => simpa using Nat.two_pow_pos b
  | some x => exact h x (List.mem_of_getElem? e)
theorem PB.mono {b c : Nat} {l : List Int} (h : PB b l) (hc : b ≤ c) : PB c l := fun x hx => Nat.lt_of_lt_of_le (h x hx) (Nat.pow_le_pow_right (by omega) hc)
end LW
namespace LW
open PySem PySem.Spec PyProof.Rows L2 RT RZ DL VL
/-! ### rows of texts: how many -/
def wF (n : Nat) : Nat → Nat → Nat
  | 0, j => if j = 0 then 1 else 0
  | i + 1, j => (n + j) * wF n i j + (if j = 0 then 0 else wF n i (j - 1))
def wL (n i : Nat) : List Nat := (List.range (i + 1)).map (wF n i)
theorem wF_zero {n : Nat} : ∀ {i j : Nat}, i < j → wF n i j = 0
  | 0, j, h => if_neg (by omega)
  | i + 1, j, h => by
    have h1 : wF n i j = 0 := wF_zero (by omega)
    have h2 : wF n i (j - 1) = 0 := wF_zero (by omega)
    simp [wF, h1, h2]
theorem wF_le {n c : Nat} : ∀ {i j : Nat}, j ≤ c → wF n i j ≤ (n + c + 1) ^ i
  | 0, j, _ => by
    show (if j = 0 then 1 else 0) ≤ _
    rw [Nat.pow_zero]
    split <;> omega
  | i + 1, j, h => by
    have h1 := wF_le (n := n) (i := i) h
    have h2 := wF_le (n := n) (i := i) (j := j - 1) (c := c) (by omega)
    have h3 : (n + j) * wF n i j ≤ (n + c) * (n + c + 1) ^ i := Nat.mul_le_mul (by omega) h1
    have h4 : (n + c + 1) ^ (i + 1) = (n + c) * (n + c + 1) ^ i + (n + c + 1) ^ i := by rw [Nat.pow_succ, Nat.mul_comm, Nat.add_mul (n + c) 1, Nat.one_mul]
    show (n + j) * wF n i j + (if j = 0 then 0 else wF n i (j - 1)) ≤ _
    rw [h4]
    split <;> omega
def stepR (T S : List Str) (m left : Nat) (x : List Str × Nat) : List (List Str × Nat) :=
  (if m ≤ x.2 + left then (T ++ S.take x.2).map fun t => (x.1 ++ [t], x.2) else []) ++ (if x.2 < m ∧ m ≤ x.2 + left + 1 then (S[x.2]?.toList).map fun t => (x.1 ++ [t], x.2 + 1) else [])
def rowsR (T S : List Str) (m c : Nat) : Nat → List (List Str × Nat)
  | 0 => [([], 0)]
  | i + 1 => (rowsR T S m c i).flatMap (stepR T S m (c - 1 - i))
structure RI (T S : List Str) (m c i : Nat) (x : List Str × Nat) : Prop where
  le : x.2 ≤ m
  ge : m ≤ x.2 + (c - i)
  len : x.1.length = i
  mem : ∀ t ∈ x.1, t ∈ T ++ S
section
variable {T S : List Str} {m c : Nat}
theorem rowsR_ok (hm : m ≤ c) : ∀ {i : Nat}, i ≤ c → ∀ x ∈ rowsR T S m c i, RI T S m c i x
  | 0, _, x, hx => by
    obtain rfl : x = ([], 0) := by simpa [rowsR] using hx
    exact ⟨Nat.zero_le _, by simpa using hm, rfl, fun t ht => by cases ht⟩
  | i + 1, hi, x, hx => by
    obtain ⟨y, hy, hs⟩ := List.mem_flatMap.mp hx
    have R := rowsR_ok hm (by omega) y hy
    have r1 := R.le
    have r2 := R.ge
    have r3 := R.len
    unfold stepR at hs
    rcases List.mem_append.mp hs with hs | hs
    · split at hs
      · obtain ⟨t, ht, rfl⟩ := List.mem_map.mp hs
        refine ⟨r1, by show m ≤ y.2 + _; omega, by show (y.1 ++ [t]).length = _; rw [List.length_append, r3]; rfl, fun u hu => ?_⟩
        rcases List.mem_append.mp hu with hu | hu
        · exact R.mem u hu
        · obtain rfl := List.mem_singleton.mp hu
          exact (List.mem_append.mp ht).elim (fun h => List.mem_append_left _ h) fun h => List.mem_append_right _ (List.mem_of_mem_take h)
      · cases hs
    · split at hs
      · obtain ⟨t, ht, rfl⟩ := List.mem_map.mp hs
        refine ⟨by show y.2 + 1 ≤ m; omega, by show m ≤ y.2 + 1 + _; omega, by show (y.1 ++ [t]).length = _; rw [List.length_append, r3]; rfl, fun u hu => ?_⟩
        rcases List.mem_append.mp hu with hu | hu
        · exact R.mem u hu
        · obtain rfl := List.mem_singleton.mp hu
          exact List.mem_append_right _ (List.mem_of_getElem? (by simpa using ht))
      · cases hs
theorem cnt_one {left j : Nat} (hS : S.length = m) {x : List Str × Nat} (hx : x.2 ≤ m) (hj : j ≤ m) : ((stepR T S m left x).countP fun y => y.2 == j) = if m ≤ j + left then (if x.2 = j then T.length + j else 0) + (if x.2 + 1 = j then 1 else 0) else 0 := by
  obtain ⟨r, u⟩ := x
  have hx : u ≤ m := hx
  unfold stepR
  simp only
  rw [List.countP_append]
  have a : ((if m ≤ u + left then (T ++ S.take u).map fun t => (r ++ [t], u) else []).countP fun y => y.2 == j) = if m ≤ u + left ∧ u = j then T.length + u else 0 := by
    by_cases h1 : m ≤ u + left
    · rw [if_pos h1, List.countP_map]
      by_cases e : u = j
      · rw [if_pos ⟨h1, e⟩, List.countP_eq_length.mpr (fun z _ => by simp [e]), List.length_append, List.length_take, hS, Nat.min_eq_left hx]
      · rw [if_neg fun z => e z.2, List.countP_eq_zero]
        intro z _
        simpa using e
    · rw [if_neg h1, if_neg fun z => h1 z.1]
      rfl
  have b : ((if u < m ∧ m ≤ u + left + 1 then (S[u]?.toList).map fun t => (r ++ [t], u + 1) else []).countP fun y => y.2 == j) = if u < m ∧ m ≤ u + left + 1 ∧ u + 1 = j then 1 else 0 := by
    by_cases h1 : u < m ∧ m ≤ u + left + 1
    · rw [if_pos h1, List.getElem?_eq_getElem (by omega)]
      by_cases e : u + 1 = j
      · rw [if_pos ⟨h1.1, h1.2, e⟩]
        simp [e]
      · rw [if_neg fun z => e z.2.2]
        simp [e]
    · rw [if_neg h1, if_neg fun z => h1 ⟨z.1, z.2.1⟩]
      rfl
  rw [a, b]
  repeat' split
  all_goals first | omega | (exfalso; omega)
theorem cnt_step {left j : Nat} (hS : S.length = m) (hj : j ≤ m) : ∀ (l : List (List Str × Nat)), (∀ x ∈ l, x.2 ≤ m) → ((l.flatMap (stepR T S m left)).countP fun x => x.2 == j) = if m ≤ j + left then (T.length + j) * (l.countP fun x => x.2 == j) + (l.countP fun x => x.2 + 1 == j) else 0
  | [], _ => by simp
  | x :: l, h => by
    rw [List.flatMap_cons, List.countP_append, cnt_one hS (h x (List.mem_cons_self ..)) hj, cnt_step hS hj l (fun y hy => h y (List.mem_cons_of_mem _ hy)), List.countP_cons, List.countP_cons]
    by_cases q : m ≤ j + left
    · simp only [if_pos q]
      by_cases e1 : x.2 = j
      · have e2 : ¬ x.2 + 1 = j := by omega
        simp only [e1, e2, if_true, if_false, beq_self_eq_true, Nat.mul_add, Nat.mul_one]
        simp
        omega
      · by_cases e2 : x.2 + 1 = j
        · simp [e1, e2]
          omega
        · simp [e1, e2]
    · simp only [if_neg q]
theorem cnt_rows (hS : S.length = m) (hm : m ≤ c) : ∀ {i j : Nat}, i ≤ c → j ≤ m → ((rowsR T S m c i).countP fun x => x.2 == j) = if m ≤ j + (c - i) then wF T.length i j else 0
  | 0, j, _, hj => by
    show ([([], 0)] : List (List Str × Nat)).countP _ = if _ then (if j = 0 then 1 else 0) else 0
    rw [if_pos (by omega)]
    by_cases e : j = 0
    · subst e; rfl
    · have : ¬ 0 = j := by omega
      simp [e, this]
  | i + 1, j, hi, hj => by
    show ((rowsR T S m c i).flatMap (stepR T S m (c - 1 - i))).countP _ = _
    rw [cnt_step hS hj _ fun x hx => (rowsR_ok hm (by omega) x hx).le, cnt_rows hS hm (by omega) hj, show c - (i + 1) = c - 1 - i by omega]
    by_cases q : m ≤ j + (c - 1 - i)
    · rw [if_pos q, if_pos q, if_pos (by omega)]
      show _ = (T.length + j) * wF T.length i j + (if j = 0 then 0 else wF T.length i (j - 1))
      congr 1
      by_cases e : j = 0
      · subst e
        rw [if_pos rfl, List.countP_eq_zero]
        intro x _
        simp
      · rw [if_neg e]
        have ih := cnt_rows hS hm (show i ≤ c by omega) (show j - 1 ≤ m by omega)
        rw [if_pos (by omega)] at ih
        rw [← ih]
        congr 1
        funext x
        have : (x.2 + 1 = j) = (x.2 = j - 1) := by apply propext; omega
        show decide (x.2 + 1 = j) = decide (x.2 = j - 1)
        simp only [this]
    · rw [if_neg q, if_neg q]
theorem rows_len (hS : S.length = m) (hm : m ≤ c) : (rowsR T S m c c).length = wF T.length c m := by
  have h := cnt_rows (T := T) hS hm (Nat.le_refl c) (Nat.le_refl m)
  rw [if_pos (by omega)] at h
  rw [← h]
  refine (List.countP_eq_length.mpr fun x hx => ?_).symm
  have R := rowsR_ok hm (Nat.le_refl c) x hx
  have r1 := R.le
  have r2 := R.ge
  simp
  omega
theorem flat_ge {α β : Type} {f : α → List β} : ∀ (l : List α), (∀ x ∈ l, 0 < (f x).length) → l.length ≤ (l.flatMap f).length
  | [], _ => Nat.zero_le _
  | x :: l, h => by
    have h1 := h x (List.mem_cons_self ..)
    have h2 := flat_ge l fun y hy => h y (List.mem_cons_of_mem _ hy)
    rw [List.flatMap_cons, List.length_append, List.length_cons]
    omega
theorem rows_mono (hS : S.length = m) (hm : m ≤ c) (h0 : 0 < T.length + m) {i : Nat} (hi : i < c) : (rowsR T S m c i).length ≤ (rowsR T S m c (i + 1)).length := flat_ge _ fun x hx => by
  have R := rowsR_ok hm (by omega) x hx
  have r1 := R.le
  have r2 := R.ge
  unfold stepR
  rw [List.length_append]
  by_cases e : x.2 < m
  · rw [if_pos (show x.2 < m ∧ m ≤ x.2 + (c - 1 - i) + 1 by omega), List.getElem?_eq_getElem (by omega)]
    simp
  · rw [if_pos (show m ≤ x.2 + (c - 1 - i) by omega), List.length_map, List.length_append, List.length_take, hS]
    omega
theorem rows_le (hS : S.length = m) (hm : m ≤ c) {i : Nat} (hi : i ≤ c) : (rowsR T S m c i).length ≤ max 1 (wF T.length c m) := by
  by_cases h0 : 0 < T.length + m
  · have go : ∀ d i, i + d = c → (rowsR T S m c i).length ≤ wF T.length c m := by
      intro d
      induction d with
      | zero => intro i h; rw [show i = c by omega, rows_len hS hm]; exact Nat.le_refl _
      | succ d ih => intro i h; exact Nat.le_trans (rows_mono hS hm h0 (by omega)) (ih (i + 1) (by omega))
    have := go (c - i) i (by omega)
    omega
  · have hT : T = [] := List.length_eq_zero_iff.mp (by omega)
    have hS0 : S = [] := List.length_eq_zero_iff.mp (by omega)
    cases i with
    | zero =>
      have : (rowsR T S m c 0).length = 1 := rfl
      omega
    | succ i =>
      have : (rowsR T S m c (i + 1)).length = 0 := by
        refine List.length_eq_zero_iff.mpr (List.flatMap_eq_nil_iff.mpr fun x hx => ?_)
        unfold stepR
        subst hT hS0
        simp
      omega
end
/-! ### what is shown -/
theorem pys_map {α : Type} {f : α → P} {g : α → PyData} : ∀ {l : List α}, (∀ x ∈ l, P.py (f x) = some (g x)) → P.pys (l.map f) = some (l.map g)
  | [], _ => by simp [P.pys]
  | x :: l, h => by
    have h1 := h x (List.mem_cons_self ..)
    have h2 := pys_map (l := l) fun y hy => h y (List.mem_cons_of_mem _ hy)
    simp [P.pys, h1, h2]
theorem showableAll_map {α : Type} {g : α → PyData} : ∀ {l : List α}, (∀ x ∈ l, (g x).showable = true) → PyData.showableAll (l.map g) = true
  | [], _ => by simp [PyData.showableAll]
  | x :: l, h => by
    have h1 := h x (List.mem_cons_self ..)
    have h2 := showableAll_map (l := l) fun y hy => h y (List.mem_cons_of_mem _ hy)
    simp [PyData.showableAll, h1, h2]
theorem hasDictAll_map {α : Type} {g : α → PyData} : ∀ {l : List α}, (∀ x ∈ l, (g x).hasDict = false) → PyData.hasDictAll (l.map g) = false
  | [], _ => by simp [PyData.hasDictAll]
  | x :: l, h => by
    have h1 := h x (List.mem_cons_self ..)
    have h2 := hasDictAll_map (l := l) fun y hy => h y (List.mem_cons_of_mem _ hy)
    simp [PyData.hasDictAll, h1, h2]
theorem depthAll_map {α : Type} {g : α → PyData} {d : Nat} : ∀ {l : List α}, (∀ x ∈ l, (g x).depth ≤ d) → PyData.depthAll (l.map g) ≤ d
  | [], _ => by simp [PyData.depthAll]
  | x :: l, h => by
    have h1 := h x (List.mem_cons_self ..)
    have h2 := depthAll_map (l := l) fun y hy => h y (List.mem_cons_of_mem _ hy)
    simp [PyData.depthAll, h1, h2]
    omega
theorem shownAll_map {α : Type} {g : α → PyData} : ∀ {l : List α}, PyData.shownAll (l.map g) = l.map fun x => (g x).shown
  | [] => by simp [PyData.shownAll]
  | x :: l => by simp [PyData.shownAll, shownAll_map (l := l)]
theorem sum_le {α : Type} {f : α → Nat} {b : Nat} : ∀ {l : List α}, (∀ x ∈ l, f x ≤ b) → (l.map f).sum ≤ l.length * b
  | [], _ => by simp
  | x :: l, h => by
    have h1 := h x (List.mem_cons_self ..)
    have h2 := sum_le (l := l) fun y hy => h y (List.mem_cons_of_mem _ hy)
    rw [List.map_cons, List.sum_cons, List.length_cons, Nat.add_mul, Nat.one_mul]
    omega
theorem shown_tup {α : Type} {g : α → PyData} {l : List α} {b : Nat} (h : ∀ x ∈ l, ((g x).shown).length ≤ b) : (PyData.shown (.tuple (l.map g))).length ≤ l.length * (b + 2) + 3 := by
  have h1 := tupleText_len_le (l.map fun x => (g x).shown)
  have h2 : ((l.map fun x => (g x).shown).map (·.length)).sum ≤ l.length * b := by
    rw [List.map_map]
    exact sum_le h
  rw [List.length_map] at h1
  simp only [PyData.shown, shownAll_map]
  have e : l.length * (b + 2) = l.length * b + 2 * l.length := by rw [Nat.mul_add, Nat.mul_comm l.length 2]
  omega
theorem shown_str {x : Str} {n : Nat} (h : SOk x) (hl : x.length ≤ n) : (PyData.shown (.str x)).length ≤ 10 * n + 2 := by
  have := StrLaws.reprText_len x fun c hc => Nat.lt_trans (sok_to h c hc) (by decide)
  simp only [PyData.shown]
  omega
/-- rows of texts -/
def rowsD (l : List (List Str)) : PyData := .tuple (l.map fun r => .tuple (r.map PyData.str))
theorem rowsP_py (l : List (List Str)) : pyT (VL.P.tup (l.map fun r => .tup (r.map P.str))) = some (rowsD l) := by
  have h : P.pys (l.map fun r => .tup (r.map P.str)) = some (l.map fun r => .tuple (r.map PyData.str)) := pys_map fun r _ => by
    have : P.pys (r.map P.str) = some (r.map PyData.str) := pys_map fun x _ => by simp [P.py]
    simp [P.py, this]
  simp [pyT, P.py, h, rowsD]
theorem sz_mul {a b x y : Nat} (h1 : a ≤ x) (h2 : b ≤ y) : a * b ≤ x * y := Nat.mul_le_mul h1 h2
theorem rowsD_ok {l : List (List Str)} {n a b : Nat} (hl : l.length ≤ a) (hr : ∀ r ∈ l, r.length ≤ b ∧ ∀ x ∈ r, SOk x ∧ x.length ≤ n) (hz : a * (b * (10 * n + 4) + 5) + 3 ≤ sizeLine) : ReprOk (rowsD l) := by
  refine ⟨?_, ?_, ?_, ?_⟩
  · simp only [rowsD, PyData.showable]
    exact showableAll_map fun r _ => by
      simp only [PyData.showable]
      exact showableAll_map fun x _ => by simp [PyData.showable]
  · simp only [rowsD, PyData.hasDict]
    exact hasDictAll_map fun r _ => by
      simp only [PyData.hasDict]
      exact hasDictAll_map fun x _ => by simp [PyData.hasDict]
  · simp only [rowsD, PyData.depth]
    have := depthAll_map (l := l) (g := fun r => PyData.tuple (r.map PyData.str)) (d := 1) fun r _ => by
      simp only [PyData.depth]
      have := depthAll_map (l := r) (g := PyData.str) (d := 0) fun x _ => by simp [PyData.depth]
      omega
    omega
  · have h1 : ∀ r ∈ l, ((fun r : List Str => PyData.tuple (r.map PyData.str)) r).shown.length ≤ b * (10 * n + 4) + 3 := fun r h => by
      show (PyData.shown (.tuple (r.map PyData.str))).length ≤ _
      obtain ⟨q1, q2⟩ := hr r h
      have := shown_tup (l := r) (g := PyData.str) (b := 10 * n + 2) (fun x hx => by
        obtain ⟨u1, u2⟩ := q2 x hx
        exact shown_str (n := n) u1 u2)
      have h3 : r.length * (10 * n + 2 + 2) ≤ b * (10 * n + 4) := Nat.mul_le_mul q1 (by omega)
      omega
    revert h1 hz
    generalize b * (10 * n + 4) = w
    intro hz h1
    have h2 := shown_tup (l := l) (g := fun r : List Str => PyData.tuple (r.map PyData.str)) (b := w + 3) h1
    have h3 : l.length * (w + 3 + 2) ≤ a * (w + 5) := sz_mul hl (Nat.le_refl _)
    exact Nat.le_trans h2 (Nat.le_trans (Nat.add_le_add_right h3 3) hz)
end LW
namespace LW
open PySem PySem.Spec PyProof.Rows L2 RT RZ DL VL
/-! ### the counts: the walks -/
theorem ixN_nat' {n k : Nat} (h : k < n) : ixN n (k : Int) = some k := by
  unfold ixN
  simp
  omega
theorem enumP_range {g : Nat → P} {N : Nat} : enumP ((List.range N).map g) = (List.range N).map fun k => .tup [.int (k : Nat), g k] := by
  refine List.ext_getElem? fun i => ?_
  unfold enumP
  by_cases h : i < N
  · simp [List.getElem?_zipIdx, h]
  · simp [List.getElem?_zipIdx, h]
theorem set_range {N k : Nat} {f g : Nat → P} {v : P} (hv : g k = v) (h : ∀ t, t ≠ k → g t = f t) : ((List.range N).map f).set k v = (List.range N).map g := by
  refine List.ext_getElem? fun i => ?_
  rw [List.getElem?_set]
  by_cases e : k = i
  · subst e
    by_cases hk : k < N
    · simp [hk, hv]
    · simp [hk]
  · rw [if_neg e]
    by_cases hi : i < N
    · simp [hi, h i (fun z => e z.symm)]
    · simp [hi]
def shF (n i j : Nat) : Nat := if j = 0 then 0 else wF n i (j - 1)
theorem wF_succ (n i j : Nat) : wF n (i + 1) j = (n + j) * wF n i j + shF n i j := rfl
theorem longer_eq (n i : Nat) : (wL n i).map (fun w => P.int (w : Nat)) ++ [.int 0] = (List.range (i + 2)).map fun j => .int (wF n i j : Nat) := by
  unfold wL
  rw [List.range_succ (n := i + 1), List.map_append, List.map_map]
  show _ = _ ++ [P.int ((wF n i (i + 1) : Nat) : Int)]
  rw [wF_zero (by omega)]
  rfl
theorem shift_eq (n i : Nat) : P.int 0 :: (wL n i).map (fun w => P.int (w : Nat)) = (List.range (i + 2)).map fun j => .int (shF n i j : Nat) := by
  unfold wL
  rw [List.range_succ_eq_map (n := i + 1), List.map_cons, List.map_map, List.map_map]
  rfl
theorem wL_succ (n i : Nat) : (wL n (i + 1)).map (fun w => P.int (w : Nat)) = (List.range (i + 2)).map fun j => .int (wF n (i + 1) j : Nat) := by
  unfold wL
  rw [List.map_map]
  rfl
theorem wL_len (n i : Nat) : (wL n i).length = i + 1 := by simp [wL]
theorem wL_at {n i j : Nat} (h : j ≤ i) : atI ((wL n i).map fun w => P.int (w : Nat)) (j : Int) = some (.int (wF n i j : Nat)) := at_map (f := fun w : Nat => P.int (w : Nat)) (by
  unfold wL
  rw [List.getElem?_map, List.getElem?_range (by omega)]
  rfl)
theorem wF_small {n i j : Nat} (hn : n ≤ 310) (hi : i ≤ 7) (hj : j ≤ 8) : wF n i j < 2 ^ 64 := by
  have h1 := wF_le (n := n) (i := i) hj
  have h2 : (n + 8 + 1) ^ i ≤ 319 ^ i := Nat.pow_le_pow_left (by omega) i
  have h3 : 319 ^ i ≤ 319 ^ 7 := Nat.pow_le_pow_right (by omega) hi
  have h4 : (319 : Nat) ^ 7 < 2 ^ 64 := by decide
  omega
theorem wF_mul {n i j : Nat} (hn : n ≤ 310) (hi : i ≤ 7) (hj : j ≤ 8) : pMul (.int ((n : Int) + (j : Int))) (.int (wF n i j : Nat)) = some (.int ((((n + j) * wF n i j : Nat)) : Int)) := by
  have h := wF_small hn hi hj
  rw [pMulR _ _ (by omega) (by omega)]
  push_cast
  rfl
set_option maxHeartbeats 2000000 in
theorem many_rows_v {n c m : Nat} (τ : Tau) (hn : n ≤ 310) (hc : c ≤ 8) (hm : m ≤ c) : V_many_text_rows [.int (n : Nat), .int (c : Nat), .int (m : Nat)] τ = some (.ok (.int (wF n c m : Nat)), τ) := by
  refine W.eq ?_
  have lb := line_big
  have rc : RgB (c : Int) := .of (by omega)
  have z1 : 1 ≤ sizeLine := by omega
  unfold V_many_text_rows
  simp [b_many_text_rows, rc, z1]
  refine WF.rngN (fun j pe τ' => τ' = τ ∧ ∃ e4 e5 e6, pe = [some (.int (n : Nat)), some (.int (c : Nat)), some (.int (m : Nat)), some (.lst ((wL n j).map fun w => P.int (w : Nat))), e4, e5, e6, none, none]) ⟨rfl, none, none, none, rfl⟩ ?_ ?_
  · rintro j pe τ' hj ⟨rfl, e4, e5, e6, rfl⟩
    have wl := wL_len n j
    have s1 : pCat (.lst ((wL n j).map fun w => P.int (w : Nat))) (.lst [.int 0]) = some (.lst ((List.range (j + 2)).map fun k => .int (wF n j k : Nat))) := by
      rw [← longer_eq]
      unfold pCat
      simp only [lstOf]
      rw [if_pos (by rw [List.length_map, wl]; show j + 1 + 1 ≤ _; omega)]
    have s2 : pCat (.lst [.int 0]) (.lst ((wL n j).map fun w => P.int (w : Nat))) = some (.lst ((List.range (j + 2)).map fun k => .int (shF n j k : Nat))) := by
      rw [← shift_eq]
      unfold pCat
      simp only [lstOf]
      rw [if_pos (by rw [List.length_map, wl]; show 1 + (j + 1) ≤ _; omega)]
      rfl
    have z2 : j + 2 ≤ sizeLine := by omega
    simp [b_many_text_rows_1, z1, z2, s1, s2, enumP_range]
    refine WL.all (fun k => .tup [.int (k : Nat), .int (wF n j k : Nat)]) (fun k => .int (wF n (j + 1) k : Nat)) (fun k hk => ?_) ?_
    · have hk := List.mem_range.mp hk
      have m1 := wF_mul (n := n) (i := j) (j := k) hn (by omega) (by omega)
      have ix : atI ((List.range (j + 2)).map fun k => P.int (shF n j k : Nat)) (k : Int) = some (.int (shF n j k : Nat)) := at_map (f := fun k : Nat => P.int (shF n j k : Nat)) (List.getElem?_range hk)
      simp [m1, ix, wF_succ]
    · simp [wL_succ]
  · rintro pe τ' ⟨rfl, e4, e5, e6, rfl⟩
    simp [wL_at hm]
set_option maxHeartbeats 2000000 in
theorem ways_v {n c : Nat} (τ : Tau) (hn : n ≤ 310) (hc : c ≤ 8) : V__law_ways [.int (n : Nat), .int (c : Nat)] τ = some (.ok (.lst ((wL n c).map fun w => P.int (w : Nat))), τ) := by
  refine W.eq ?_
  have lb := line_big
  have rc : RgB (c : Int) := .of (by omega)
  have z1 : 1 ≤ sizeLine := by omega
  unfold V__law_ways
  simp [b__law_ways, rc, z1]
  refine WF.rngN (fun j pe τ' => τ' = τ ∧ ∃ e3 e4 e5, pe = [some (.int (n : Nat)), some (.int (c : Nat)), some (.lst ((wL n j).map fun w => P.int (w : Nat))), e3, e4, e5]) ⟨rfl, none, none, none, rfl⟩ ?_ ?_
  · rintro j pe τ' hj ⟨rfl, e3, e4, e5, rfl⟩
    have wl := wL_len n j
    have s2 : pCat (.lst [.int 0]) (.lst ((wL n j).map fun w => P.int (w : Nat))) = some (.lst ((List.range (j + 2)).map fun k => .int (shF n j k : Nat))) := by
      rw [← shift_eq]
      unfold pCat
      simp only [lstOf]
      rw [if_pos (by rw [List.length_map, wl]; show 1 + (j + 1) ≤ _; omega)]
      rfl
    have r1 : RgB ((j : Int) + 1) := .of (by omega)
    have z2 : j + 1 ≤ sizeLine := by omega
    simp [b__law_ways_1, z1, s2, wl, r1, z2]
    refine WF.rngN (n := j + 1) (fun k pe τ'' => τ'' = τ' ∧ ∃ e5, pe = [some (.int (n : Nat)), some (.int (c : Nat)), some (.lst ((wL n j).map fun w => P.int (w : Nat))), some (.int (j : Nat)), some (.own ((List.range (j + 2)).map fun t => .int ((if t < k then wF n (j + 1) t else shF n j t : Nat) : Nat))), e5]) ⟨rfl, e5, by simp⟩ ?_ ?_
    · rintro k pe τ'' hk ⟨rfl, e5, rfl⟩
      have m1 := wF_mul (n := n) (i := j) (j := k) hn (by omega) (by omega)
      have i1 : atI ((List.range (j + 2)).map fun t => P.int ((if t < k then wF n (j + 1) t else shF n j t : Nat) : Nat)) (k : Int) = some (.int (shF n j k : Nat)) := by
        rw [at_map (f := fun t : Nat => P.int ((if t < k then wF n (j + 1) t else shF n j t : Nat) : Nat)) (List.getElem?_range (show k < j + 2 by omega)), if_neg (by omega)]
      have i2 := wL_at (n := n) (i := j) (j := k) (by omega)
      have i3 : ixN (j + 2) (k : Int) = some k := ixN_nat' (by omega)
      simp [b__law_ways_2, i1, i2, m1, i3]
      refine set_range ?_ fun t ht => ?_
      · rw [if_pos (by omega), wF_succ]
        simp
        omega
      · have : (t < k + 1) = (t < k) := by apply propext; omega
        simp only [this]
    · rintro pe τ'' ⟨rfl, e5, rfl⟩
      simp [wL_succ]
      intro t ht
      split
      · rfl
      · obtain rfl : t = j + 1 := by omega
        rw [wF_succ, wF_zero (by omega)]
        simp
  · rintro pe τ' ⟨rfl, e3, e4, e5, rfl⟩
    simp
end LW
namespace LW
open PySem PySem.Spec PyProof.Rows L2 RT RZ DL VL
/-! ### the rows: the walks -/
def rwP (x : List Str × Nat) : P := .tup [.tup (x.1.map P.str), .int (x.2 : Nat)]
theorem atI_str {l : List Str} {j : Nat} {s : Str} (h : l[j]? = some s) : atI (l.map P.str) (j : Int) = some (.str s) := at_map (f := P.str) h
theorem mem_flat_len {α β : Type} {f : α → List β} {l pre post : List α} {x : α} (h : l = pre ++ x :: post) : (pre.flatMap f).length + (f x).length ≤ (l.flatMap f).length := by
  subst h
  rw [List.flatMap_append, List.flatMap_cons, List.length_append, List.length_append]
  omega
set_option maxHeartbeats 4000000 in
theorem with_text_v {T S : List Str} {m left : Nat} {l : List (List Str × Nat)} (τ : Tau) (hS : S.length = m) (hm : m ≤ 100) (hT : T.length ≤ 1000) (hl : ∀ x ∈ l, x.2 ≤ m ∧ x.1.length ≤ 100) (hz : (l.flatMap (stepR T S m left)).length ≤ 1000) (hn : l.length ≤ 1000) :
    V_with_text [.lst (l.map rwP), .tup (T.map P.str), .tup (S.map P.str), .int (left : Nat)] τ = some (.ok (.lst ((l.flatMap (stepR T S m left)).map rwP)), τ) := by
  refine W.eq ?_
  have lb := line_big
  unfold V_with_text
  have z0 : 0 ≤ sizeLine := by omega
  have zl : l.length ≤ sizeLine := by omega
  simp [b_with_text, itemsC, items, zl]
  refine WF.pre (enc := rwP) (fun pre pe τ' => τ' = τ ∧ ∃ e5 e6 e7 e8, pe = [some (.lst (l.map rwP)), some (.tup (T.map P.str)), some (.tup (S.map P.str)), some (.int (left : Nat)), some (.own ((pre.flatMap (stepR T S m left)).map rwP)), e5, e6, e7, e8]) ⟨rfl, none, none, none, none, rfl⟩ ?_ ?_
  · rintro pre x post pe τ' hL ⟨rfl, e5, e6, e7, e8, rfl⟩
    obtain ⟨h1, h2⟩ := hl x (by rw [hL]; simp)
    have fl := mem_flat_len (f := stepR T S m left) hL
    obtain ⟨r, u⟩ := x
    have h1 : u ≤ m := h1
    have h2 : r.length ≤ 100 := h2
    have zS : S.length ≤ sizeLine := by omega
    have ct : cutP (S.map P.str) none (some (u : Int)) = (S.take u).map P.str := by rw [cutP_to (by rw [List.length_map]; omega), List.map_take]
    have z3 : T.length + u ≤ sizeLine := by omega
    have z3' : T.length + min u S.length ≤ sizeLine := by omega
    have z4 : r.length + 1 ≤ sizeLine := by omega
    have z5 : 1 ≤ sizeLine := by omega
    have z6 : 2 ≤ sizeLine := by omega
    rw [List.flatMap_append, List.flatMap_cons, List.flatMap_nil, List.append_nil]
    generalize pre.flatMap (stepR T S m left) = A at *
    obtain ⟨C, hC⟩ : ∃ C, C = (if u < m ∧ m ≤ u + left + 1 then (S[u]?.toList).map fun t => (r ++ [t], u + 1) else []) := ⟨_, rfl⟩
    obtain ⟨F, hF⟩ : ∃ F, F = (if m ≤ u + left then (T ++ S.take u).map fun t => (r ++ [t], u) else []) := ⟨_, rfl⟩
    have eS : stepR T S m left (r, u) = F ++ C := by rw [hF, hC]; rfl
    rw [eS, List.length_append] at fl
    obtain ⟨W3, hW⟩ : ∃ t, t = (vIfS (vChn pLt pLe (vC (P.int 0)) (vVar 7) (vOp pAdd (vVar 3) (vC (P.int 1)))) (vAppend 4 (vCB qTup (vCons (vOp pAdd (vVar 5) (vCB qTup (vCons (vOp pIx (vVar 2) (vVar 6)) vNil))) (vCons (vOp pAdd (vVar 6) (vC (P.int 1))) vNil)))) vNext) := ⟨_, rfl⟩
    have eb : b_with_text_1 = (vSeq (vAsg (.nm 7) (vOp pSub (vCB qLen (vCons (vVar 2) vNil)) (vVar 6))) (vSeq (vIfS (vBl (vOp pLe (vVar 7) (vVar 3))) (vFor (wvSeqC (vOp pAdd (vVar 1) (vSl (vVar 2) none (some (vVar 6))))) (.nm 8) (b_with_text_2)) vNext) W3)) := by rw [hW]; rfl
    have a1 : ∀ t, pAdd (.tup (r.map P.str)) (.tup [.str t]) = some (.tup ((r ++ [t]).map P.str)) := fun t => by
      show (if (r.map P.str).length + 1 ≤ sizeLine then some (P.tup (r.map P.str ++ [.str t])) else none) = _
      rw [if_pos (by rw [List.length_map]; exact z4), List.map_append]
      rfl
    have tl : ∀ (B : List (List Str × Nat)) (e8 : Option P), B.length + C.length ≤ 1000 → WP W3
        [some (P.lst (List.map rwP l)), some (P.tup (List.map P.str T)), some (P.tup (List.map P.str S)), some (P.int (left : Nat)), some (P.own (List.map rwP B)), some (P.tup (List.map P.str r)), some (P.int (u : Nat)), some (P.int ((S.length : Int) - (u : Int))), e8] τ' fun o pe2 τ2 => o = .nx ∧ τ2 = τ' ∧ ∃ e5 e6 e7 e8, pe2 = [some (P.lst (List.map rwP l)), some (P.tup (List.map P.str T)), some (P.tup (List.map P.str S)), some (P.int (left : Nat)), some (P.own (List.map rwP (B ++ C))), e5, e6, e7, e8] := by
      intro B e8 hB
      subst hW
      by_cases c1 : u < m
      · have i1 : u < S.length := by omega
        by_cases c2 : m ≤ u + left + 1
        · have i2 : (S.length : Int) - (u : Int) ≤ (left : Int) + 1 := by omega
          obtain ⟨s, gs⟩ : ∃ s, S[u]? = some s := ⟨_, List.getElem?_eq_getElem (by rw [hS]; exact c1)⟩
          have ix := atI_str gs
          rw [if_pos ⟨c1, c2⟩, gs] at hC
          have zB : B.length < sizeLine := by
            rw [hC] at hB
            simp at hB
            omega
          subst hC
          simp [pBl, i1, i2, ix, z4, z5, z6, zB, rwP, a1]
        · have i2 : ¬ (S.length : Int) - (u : Int) ≤ (left : Int) + 1 := by omega
          rw [if_neg fun z => c2 z.2] at hC
          subst hC
          simp [pBl, i1, i2]
      · have i1 : ¬ u < S.length := by omega
        rw [if_neg fun z => c1 z.1] at hC
        subst hC
        simp [pBl, i1]
    have fA : A.length + C.length ≤ 1000 := by omega
    have fB : A.length + F.length + C.length ≤ 1000 := by omega
    by_cases c : m ≤ u + left
    · have i1 : (S.length : Int) - (u : Int) ≤ (left : Int) := by omega
      rw [if_pos c] at hF
      obtain ⟨Z, hZ⟩ : ∃ Z, Z = T ++ S.take u := ⟨_, rfl⟩
      rw [← hZ] at hF
      have p1 : pSl (.tup (S.map P.str)) none (some (u : Int)) = some (.tup ((S.take u).map P.str)) := by
        show some (P.tup (cutP _ _ _)) = _
        rw [ct]
      have p2 : pAdd (.tup (T.map P.str)) (.tup ((S.take u).map P.str)) = some (.tup (Z.map P.str)) := by
        show (if (T.map P.str).length + ((S.take u).map P.str).length ≤ sizeLine then some (P.tup (T.map P.str ++ (S.take u).map P.str)) else none) = _
        rw [if_pos (by rw [List.length_map, List.length_map, List.length_take]; exact z3'), hZ, List.map_append]
      simp [rwP, eb, zS, i1, p1, itemsC, items]
      rw [List.map_take] at p2
      rw [p2]
      simp
      have lF : F.length = Z.length := by rw [hF, List.length_map]
      refine WF.pre (enc := P.str) (fun pr pe τ'' => τ'' = τ' ∧ ∃ e8, pe = [some (.lst (l.map rwP)), some (.tup (T.map P.str)), some (.tup (S.map P.str)), some (.int (left : Nat)), some (.own ((A ++ pr.map fun t => (r ++ [t], u)).map rwP)), some (.tup (r.map P.str)), some (.int (u : Nat)), some (P.int ((S.length : Int) - (u : Int))), e8]) ?_ ?_ ?_
      · exact ⟨rfl, e8, by simp⟩
      · rintro pr t po pe τ'' hP ⟨rfl, e8, rfl⟩
        have zl : A.length + pr.length < sizeLine := by
          have : pr.length ≤ Z.length := by rw [hP]; simp
          omega
        simp [b_with_text_2, z5, z6, a1, zl]
        simp [rwP]
      · rintro pe τ'' ⟨rfl, e8, rfl⟩
        rw [← hF]
        simp
        have q := tl (A ++ F) e8 (by rw [List.length_append]; exact fB)
        rw [List.map_append] at q
        refine q.mono ?_
        rintro o pe2 τ2 ⟨rfl, rfl, e5, e6, e7, e8, rfl⟩
        rw [eS]
        simp [rwP]
    · have i1 : ¬ (S.length : Int) - (u : Int) ≤ (left : Int) := by omega
      rw [if_neg c] at hF
      subst hF
      rw [eS, List.nil_append]
      simp [rwP, eb, zS, i1]
      refine (tl A e8 fA).mono ?_
      rintro o pe2 τ2 ⟨rfl, rfl, e5, e6, e7, e8, rfl⟩
      simp [rwP]
  · rintro pe τ' ⟨rfl, e5, e6, e7, e8, rfl⟩
    simp
end LW
namespace LW
open PySem PySem.Spec PyProof.Rows L2 RT RZ DL VL
/-! ### all rows -/
def manyX (n : Nat) : XP := ⟨"TooManyCases", some [("count", .int (n : Nat))]⟩
structure TB (T : List Str) (m c : Nat) : Prop where
  hT : T.length ≤ 310
  hc : c ≤ 8
  hm : m ≤ c
abbrev RW (T : List Str) (m c : Nat) : Nat → List (List Str × Nat) := rowsR T (SS T m) m c
theorem rw_le {T : List Str} {m c i : Nat} (b : TB T m c) (h : wF T.length c m ≤ 300) (hi : i ≤ c) : (RW T m c i).length ≤ 300 := by
  have := rows_le (T := T) (SS_len T m) b.hm hi
  show (rowsR T (SS T m) m c i).length ≤ 300
  omega
theorem rw_sm {T : List Str} {m c i : Nat} (b : TB T m c) (hi : i ≤ c) : ∀ x ∈ RW T m c i, x.2 ≤ m ∧ x.1.length ≤ 100 := fun x hx => by
  have R := rowsR_ok b.hm hi x hx
  have r1 := R.len
  have := b.hc
  exact ⟨R.le, by omega⟩
theorem step_down (c : Nat) : stepP ((c : Int) - 1) (-1) c = (List.range c).map fun j => P.int ((c - 1 - j : Nat) : Int) := by
  unfold stepP
  refine List.map_congr_left fun k hk => ?_
  have := List.mem_range.mp hk
  congr 1
  omega
theorem range_at {n i a : Nat} (h : (List.range n)[i]? = some a) : i < n ∧ i = a := by
  have h1 := (List.getElem?_eq_some_iff.mp h).1
  have h2 := (List.getElem?_eq_some_iff.mp h).2
  simp at h1 h2
  exact ⟨h1, h2⟩
def outP (l : List (List Str × Nat)) : List P := l.map fun x => .tup (x.1.map P.str)
set_option maxHeartbeats 4000000 in
theorem text_rows_w {T : List Str} {m c : Nat} (τ : Tau) (b : TB T m c) : W (V_text_rows [.tup (T.map P.str), .int (c : Nat), .int (m : Nat)] τ) (fun p τ' => τ' = τ ∧ wF T.length c m ≤ 300 ∧ p = .tup (outP (RW T m c c))) (fun e τ' => τ' = τ ∧ 300 < wF T.length c m ∧ e = manyX (wF T.length c m)) := by
  have lb := line_big
  have q1 := many_rows_v τ (n := T.length) b.hT b.hc b.hm
  have q2 := samples_v (K := T) (n := m) τ (by have := b.hm; have := b.hc; omega) (by have := b.hT; omega)
  have zT : T.length ≤ sizeLine := by have := b.hT; omega
  unfold V_text_rows
  simp [b_text_rows, q1, zT]
  by_cases h : 300 < wF T.length c m
  · have h' : (300 : Int) < (wF T.length c m : Nat) := by omega
    simp [h', h, manyX]
  · have h' : ¬ (300 : Int) < (wF T.length c m : Nat) := by omega
    have z0 : 0 ≤ sizeLine := by omega
    have z1 : 1 ≤ sizeLine := by omega
    have z2 : 2 ≤ sizeLine := by omega
    have rc : RgB (c : Int) := .of (by have := b.hc; omega)
    have hw : wF T.length c m ≤ 300 := by omega
    simp [h', q2, z0, z1, z2, rc]
    rw [step_down]
    refine WF.dat (fun i pe τ' => τ' = τ ∧ i ≤ c ∧ ∃ e6, pe = [some (.tup (T.map P.str)), some (.int (c : Nat)), some (.int (m : Nat)), some (.int (wF T.length c m : Nat)), some (.tup ((SS T m).map P.str)), some (.lst ((RW T m c i).map rwP)), e6, none, none]) ⟨rfl, Nat.zero_le _, none, rfl⟩ ?_ ?_
    · rintro i a pe τ' hi ⟨rfl, _, e6, rfl⟩
      obtain ⟨hi, rfl⟩ := range_at hi
      have q3 : V_with_text [.lst ((RW T m c i).map rwP), .tup (T.map P.str), .tup ((SS T m).map P.str), .int ((c - 1 - i : Nat) : Int)] τ' = some (.ok (.lst ((RW T m c (i + 1)).map rwP)), τ') := with_text_v (T := T) (S := SS T m) (m := m) (left := c - 1 - i) (l := RW T m c i) τ' (SS_len T m) (by have := b.hm; have := b.hc; omega) (by have := b.hT; omega) (rw_sm b (by omega)) (by
        have := rw_le b hw (i := i + 1) (by omega)
        show (RW T m c (i + 1)).length ≤ 1000
        omega) (by
        have := rw_le b hw (i := i) (by omega)
        omega)
      simp [b_text_rows_1, q3]
      omega
    · rintro pe τ' ⟨rfl, _, e6, rfl⟩
      have zl : (RW T m c c).length ≤ sizeLine := by
        have := rw_le b hw (Nat.le_refl c)
        omega
      rw [List.length_range]
      simp [itemsC, items, zl]
      refine WL.all rwP (fun x => .tup (x.1.map P.str)) (fun x _ => by simp [rwP]) ⟨rfl, hw, rfl⟩
set_option maxHeartbeats 4000000 in
theorem fresh_rows_v {T : List Str} {m : Nat} (τ : Tau) (hT : T.length ≤ 310) (hm : m ≤ 100) : V__law_fresh [.str sV, .lst (T.map P.str), .int ((m : Nat) : Int)] τ = some (.ok (.lst ((SS T m).map P.str)), τ) := by
  refine W.eq ?_
  have lb := line_big
  have zT : T.length ≤ sizeLine := by omega
  have rg : RgB ((m : Int) + (T.length : Int)) := .of (by omega)
  unfold V__law_fresh
  have zi : (m : Int) + (T.length : Int) ≤ (sizeLine : Int) := by omega
  simp [b__law_fresh, zT, rg, zi]
  refine WL.rng (n := m + T.length) (m := (m : Int) + (T.length : Int)) (fun j acc τ' => acc = ((List.range j).map fun k => P.str (vS (k + 1))) ∧ τ' = τ) ⟨rfl, rfl⟩ ?_ ?_
  · rintro j acc τ' hj ⟨rfl, rfl⟩
    have q1 := qStr_succ (j := j) (by omega)
    have q2 := pAdd_vS (k := j + 1) (by omega)
    simp [q1, q2, List.range_succ]
  · rintro acc τ' ⟨rfl, rfl⟩
    have zl : m + T.length ≤ sizeLine := by omega
    have e : ((List.range (m + T.length)).map fun k => P.str (vS (k + 1))) = ((List.range (m + T.length)).map fun k => vS (k + 1)).map P.str := by rw [List.map_map]; rfl
    simp [itemsC, items, zl]
    rw [e]
    refine WL.map P.str (fun x => decide (x ∉ T)) P.str (fun x _ => by simp) ?_
    have l1 := smpL_len T (m + T.length)
    have l2 : ((((List.range (m + T.length)).map fun k => vS (k + 1)).filter fun x => decide (x ∉ T)).map P.str) = (smpL T (m + T.length)).map P.str := rfl
    rw [l2]
    have p1 : pSl (.lst ((smpL T (m + T.length)).map P.str)) none (some (m : Int)) = some (.lst ((SS T m).map P.str)) := by
      show some (P.lst (cutP _ _ _)) = _
      rw [cutP_to (by rw [List.length_map]; omega), ← List.map_take]
      rfl
    simp [p1]
set_option maxHeartbeats 4000000 in
theorem law_rows_w {T : List Str} {m c : Nat} (τ : Tau) (b : TB T m c) (h : wF T.length c m ≤ 300) : V__law_text_rows [.lst (T.map P.str), .int (c : Nat), .int (m : Nat)] τ = some (.ok (.lst (outP (RW T m c c))), τ) := by
  refine W.eq ?_
  have lb := line_big
  have q1 := fresh_rows_v (T := T) (m := m + 1) τ b.hT (by have := b.hm; have := b.hc; omega)
  have rc : RgB (c : Int) := .of (by have := b.hc; omega)
  have z0 : 0 ≤ sizeLine := by omega
  have z1 : 1 ≤ sizeLine := by omega
  have z2 : 2 ≤ sizeLine := by omega
  have hm := b.hm
  have hc := b.hc
  have hT := b.hT
  have q1' : V__law_fresh [.str (Str.ofString "v"), .lst (T.map P.str), .int ((m : Int) + 1)] τ = _ := q1
  unfold V__law_text_rows
  simp [b__law_text_rows, q1', z0, z1, z2, rc]
  refine WF.rngN (fun i pe τ' => τ' = τ ∧ ∃ e5 e6 e7 e8 e9 e10, pe = [some (.lst (T.map P.str)), some (.int (c : Nat)), some (.int (m : Nat)), some (.lst ((SS T (m + 1)).map P.str)), some (.lst ((RW T m c i).map rwP)), e5, e6, e7, e8, e9, e10]) ⟨rfl, none, none, none, none, none, none, rfl⟩ ?_ ?_
  · rintro i pe τ' hi ⟨rfl, e5, e6, e7, e8, e9, e10, rfl⟩
    have li := rw_le b h (i := i) (by omega)
    have ln := rw_le b h (i := i + 1) (by omega)
    have zl : (RW T m c i).length ≤ sizeLine := by omega
    simp [b__law_text_rows_1, itemsC, items, z0, zl]
    refine WF.pre (enc := rwP) (fun pre pe τ'' => τ'' = τ' ∧ ∃ e7 e8 e9 e10, pe = [some (.lst (T.map P.str)), some (.int (c : Nat)), some (.int (m : Nat)), some (.lst ((SS T (m + 1)).map P.str)), some (.lst ((RW T m c i).map rwP)), some (.int (i : Nat)), some (.own ((pre.flatMap (stepR T (SS T m) m (c - 1 - i))).map rwP)), e7, e8, e9, e10]) ⟨rfl, e7, e8, e9, e10, rfl⟩ ?_ ?_
    · rintro pre x post pe τ'' hL ⟨rfl, e7, e8, e9, e10, rfl⟩
      obtain ⟨h1, h2⟩ := rw_sm b (i := i) (by omega) x (by rw [hL]; simp)
      have fl := mem_flat_len (f := stepR T (SS T m) m (c - 1 - i)) hL
      have fl2 : ((RW T m c i).flatMap (stepR T (SS T m) m (c - 1 - i))).length ≤ 300 := ln
      obtain ⟨r, u⟩ := x
      have h1 : u ≤ m := h1
      have h2 : r.length ≤ 100 := h2
      rw [List.flatMap_append, List.flatMap_cons, List.flatMap_nil, List.append_nil]
      generalize pre.flatMap (stepR T (SS T m) m (c - 1 - i)) = A at *
      obtain ⟨s, gs, es⟩ := SS_get (K := T) (u := u) (N := m + 1) (by omega)
      obtain ⟨E, hE⟩ : ∃ E, E = T ++ SS T u := ⟨_, rfl⟩
      have lE : E.length = T.length + u := by rw [hE, List.length_append, SS_len]
      obtain ⟨F, hF⟩ : ∃ F, F = fun k : Nat => if m ≤ u + (c - 1 - i) then (E.take k).map fun t => (r ++ [t], u) else [] := ⟨_, rfl⟩
      obtain ⟨C, hC⟩ : ∃ C, C = if u < m ∧ m ≤ u + (c - 1 - i) + 1 then [(r ++ [s], u + 1)] else [] := ⟨_, rfl⟩
      have eS : stepR T (SS T m) m (c - 1 - i) (r, u) = F E.length ++ C := by
        unfold stepR
        rw [hF, hC]
        simp only
        rw [SS_take h1, List.take_length, hE]
        congr 1
        by_cases q : u < m
        · obtain ⟨s', gs', es'⟩ := SS_get (K := T) (u := u) (N := m) q
          have : s = s' := by
            have := es.symm.trans es'
            simpa using this
          rw [gs', ← this]
          rfl
        · rw [if_neg fun z => q z.1, if_neg fun z => q z.1]
      rw [eS, List.length_append] at fl
      have ec : T.map P.str ++ (SS T (u + 1)).map P.str = (E ++ [s]).map P.str := by rw [← List.map_append, es, ← List.append_assoc, ← hE]
      have zc : T.length + (SS T (u + 1)).length ≤ sizeLine := by rw [SS_len]; omega
      have p1 : pSl (.lst ((SS T (m + 1)).map P.str)) none (some ((u : Int) + 1)) = some (.lst ((SS T (u + 1)).map P.str)) := by
        show some (P.lst (cutP _ _ (some ((u + 1 : Nat) : Int)))) = _
        rw [cutP_to (by rw [List.length_map, SS_len]; omega), ← List.map_take, SS_take (by omega)]
      have z9 : E.length + 1 ≤ sizeLine := by omega
      have rg : RgB ((E.length : Int) + 1) := .of (by omega)
      have zT : T.length ≤ sizeLine := by omega
      simp only [rwP]
      simp [b__law_text_rows_2, p1, itemsC, items, zc]
      rw [ec]
      have zE : (E ++ [s]).length = E.length + 1 := by simp
      have rg' : RgB (((E ++ [s]).length : Nat) : Int) := by rw [zE]; exact .of (by omega)
      have zE' : (E ++ [s]).length ≤ sizeLine := by omega
      generalize hG : E ++ [s] = G at *
      have zs : (SS T (u + 1)).length = u + 1 := SS_len T (u + 1)
      have rg2 : RgB ((T.length : Int) + ((SS T (u + 1)).length : Int)) := .of (by omega)
      simp [rg2]
      refine WF.rng (n := G.length) (m := (T.length : Int) + ((SS T (u + 1)).length : Int)) (fun k pe τ1 => τ1 = τ'' ∧ ∃ e9 e10, pe = [some (.lst (T.map P.str)), some (.int (c : Nat)), some (.int (m : Nat)), some (.lst ((SS T (m + 1)).map P.str)), some (.lst ((RW T m c i).map rwP)), some (.int (i : Nat)), some (.own ((A ++ F k ++ if k = E.length + 1 then C else []).map rwP)), some (.tup [.tup (r.map P.str), .int (u : Nat)]), some (.lst (G.map P.str)), e9, e10]) ?_ ?_ ?_
      · refine ⟨rfl, e9, e10, ?_⟩
        rw [hF]
        simp
      · rintro k pe τ1 hk ⟨rfl, e9, e10, rfl⟩
        have fk : (F k).length ≤ E.length := by
          rw [hF]
          show (if _ then _ else _ : List (List Str × Nat)).length ≤ _
          split
          · rw [List.length_map, List.length_take]; omega
          · exact Nat.zero_le _
        have zA : A.length + (F k).length < sizeLine := by omega
        have a1 : ∀ t, pAdd (.tup (r.map P.str)) (.tup [.str t]) = some (.tup ((r ++ [t]).map P.str)) := fun t => by
          show (if (r.map P.str).length + 1 ≤ sizeLine then some (P.tup (r.map P.str ++ [.str t])) else none) = _
          rw [if_pos (by rw [List.length_map]; omega), List.map_append]
          rfl
        by_cases hk2 : k < E.length
        · have ck : ¬ ((k : Int) = (G.length : Int) - 1) := by omega
          have iu : (u : Int) ≤ (m : Int) := by omega
          have e0 : ¬ k = E.length := by omega
          have e1 : ¬ k = E.length + 1 := by omega
          obtain ⟨t, gt⟩ : ∃ t, E[k]? = some t := ⟨_, List.getElem?_eq_getElem hk2⟩
          have gt' : G[k]? = some t := by rw [← hG, List.getElem?_append_left hk2, gt]
          have ix := atI_str gt'
          by_cases q : m ≤ u + (c - 1 - i)
          · have q' : (m : Int) ≤ (u : Int) + (c : Int) - (i : Int) - 1 := by omega
            have fs : F (k + 1) = F k ++ [(r ++ [t], u)] := by
              rw [hF]
              simp only [if_pos q]
              rw [take_snoc' gt, List.map_append]
              rfl
            rw [fs]
            simp [b__law_text_rows_3, ck, iu, h1, q', ix, a1, z1, z2, e0, e1, zA, rwP]
          · have q' : ¬ (m : Int) ≤ (u : Int) + (c : Int) - (i : Int) - 1 := by omega
            have fs : F (k + 1) = F k := by
              rw [hF]
              simp only [if_neg q]
            rw [fs]
            simp [b__law_text_rows_3, ck, iu, h1, q', e0, e1]
        · obtain rfl : k = E.length := by omega
          have ck : ((E.length : Int) = (G.length : Int) - 1) = True := eq_true (by omega)
          have e1 : ¬ E.length = E.length + 1 := by omega
          have fs : F (E.length + 1) = F E.length := by
            rw [hF]
            simp only
            rw [List.take_length, List.take_of_length_le (by omega)]
          have gt' : G[E.length]? = some s := by rw [← hG]; simp
          have ix := atI_str gt'
          rw [fs]
          by_cases q1 : u < m
          · have iu : (u : Int) + 1 ≤ (m : Int) := by omega
            by_cases q : m ≤ u + (c - 1 - i) + 1
            · have q' : (m : Int) ≤ (u : Int) + 1 + (c : Int) - (i : Int) - 1 := by omega
              rw [if_pos ⟨q1, q⟩] at hC
              rw [hC]
              simp [b__law_text_rows_3, ck, iu, q', ix, a1, z1, z2, e1, zA, rwP]
            · have q' : ¬ (m : Int) ≤ (u : Int) + 1 + (c : Int) - (i : Int) - 1 := by omega
              rw [if_neg fun z => q z.2] at hC
              rw [hC]
              simp [b__law_text_rows_3, ck, iu, q', e1]
          · have iu : ¬ (u : Int) + 1 ≤ (m : Int) := by omega
            rw [if_neg fun z => q1 z.1] at hC
            rw [hC]
            simp [b__law_text_rows_3, ck, iu, e1]
      · rintro pe τ1 ⟨rfl, e9, e10, rfl⟩
        have fs : F G.length = F E.length := by
          rw [hF]
          simp only
          rw [List.take_length, List.take_of_length_le (by omega)]
        rw [eS, if_pos zE, fs]
        simp
    · rintro pe τ'' ⟨rfl, e7, e8, e9, e10, rfl⟩
      simp
      rfl
  · rintro pe τ' ⟨rfl, e5, e6, e7, e8, e9, e10, rfl⟩
    have li := rw_le b h (i := c) (by omega)
    have zl : (RW T m c c).length ≤ sizeLine := by omega
    simp [itemsC, items, zl]
    refine WL.all rwP (fun x => .tup (x.1.map P.str)) (fun x _ => by simp [rwP]) ⟨rfl, rfl⟩
end LW
namespace LW
open PySem PySem.Spec PyProof.Rows L2 RT RZ DL VL
/-! ### told and due -/
structure TX (T : List Str) : Prop where
  len : T.length ≤ 305
  ok : ∀ x ∈ T, SOk x ∧ x.length ≤ 20
theorem ss_short (T : List Str) (m : Nat) (hm : m + T.length ≤ 1000) : ∀ x ∈ SS T m, SOk x ∧ x.length ≤ 20 := fun x hx => by
  have h := List.mem_of_mem_take hx
  unfold smpL at h
  obtain ⟨k, hk, rfl⟩ := List.mem_map.mp (List.mem_filter.mp h).1
  have hk := List.mem_range.mp hk
  have h1 := num_len (k := k + 1) (by omega)
  have h2 := sV_ok.2
  refine ⟨vS_ok _, ?_⟩
  show (sV ++ num (k + 1)).length ≤ 20
  rw [len_app]
  omega
theorem out_ok {T : List Str} {m c : Nat} (b : TB T m c) (t : TX T) (h : wF T.length c m ≤ 300) : (RW T m c c).length ≤ 300 ∧ ∀ r ∈ (RW T m c c).map (·.1), r.length ≤ 8 ∧ ∀ x ∈ r, SOk x ∧ x.length ≤ 20 := by
  have hm := b.hm
  have hc := b.hc
  have hT := b.hT
  refine ⟨rw_le b h (Nat.le_refl c), fun r hr => ?_⟩
  obtain ⟨x, hx, rfl⟩ := List.mem_map.mp hr
  have R := rowsR_ok b.hm (Nat.le_refl c) x hx
  have r1 := R.len
  refine ⟨by omega, fun s hs => ?_⟩
  rcases List.mem_append.mp (R.mem s hs) with q | q
  · exact t.ok s q
  · exact ss_short T m (by omega) s q
set_option maxHeartbeats 4000000 in
theorem same_rows {T : List Str} {m c : Nat} (τ : Tau) (b : TB T m c) (t : TX T) (h : wF T.length c m ≤ 300) : V__law_same [.tup (outP (RW T m c c)), .tup (outP (RW T m c c))] τ = some (.ok (.bl true), τ) := by
  obtain ⟨h1, h2⟩ := out_ok b t h
  have e : outP (RW T m c c) = ((RW T m c c).map (·.1)).map fun r => P.tup (r.map P.str) := by
    unfold outP
    rw [List.map_map]
    rfl
  have rk : ReprOk (rowsD ((RW T m c c).map (·.1))) := rowsD_ok (n := 20) (a := 300) (b := 8) (by rw [List.length_map]; exact h1) h2 (by have := line_big; omega)
  have q1 := qRepr_of (rowsP_py ((RW T m c c).map (·.1))) rk
  have q2 : eqP (.tup (outP (RW T m c c))) (.tup (outP (RW T m c c))) = some true := by
    refine eqP_self (f := true) (d := 3) ?_
    rw [Gd_tup, e]
    exact Gds_map fun r hr => by
      rw [Gd_tup]
      exact Gds_map fun x hx => ((h2 r hr).2 x hx).1
  rw [e] at q2 ⊢
  generalize ((RW T m c c).map (·.1)).map (fun r => P.tup (r.map P.str)) = Z at *
  refine W.eq ?_
  unfold V__law_same
  simp [b__law_same, q1, q2]
def manyP (n : Nat) : P := .tup [.str (Str.ofString "many"), .int (n : Nat), .bl true]
set_option maxHeartbeats 4000000 in
theorem same_many {n : Nat} (τ : Tau) (hn : n < 10 ^ 30) : V__law_same [manyP n, manyP n] τ = some (.ok (.bl true), τ) := by
  have h1 : pyT (manyP n) = some (.tuple [.str (Str.ofString "many"), .int (n : Nat), .bool true]) := by simp [manyP, pyT, P.py, P.pys]
  have lg : (n : Int).natAbs.log2 < 1920 := by
    rw [Int.natAbs_natCast]
    by_cases h : n = 0
    · subst h; decide
    · have := (Nat.log2_lt h).mpr (Nat.lt_of_lt_of_le hn (show 10 ^ 30 ≤ 2 ^ 200 by decide))
      omega
  have rk : ReprOk (.tuple [.str (Str.ofString "many"), .int (n : Nat), .bool true]) := by
    refine ⟨?_, ?_, ?_, ?_⟩
    · simp [PyData.showable, PyData.showableAll]
      exact lg
    · simp [PyData.hasDict, PyData.hasDictAll]
    · simp [PyData.depth, PyData.depthAll]
    · have h2 : (PyData.shown (.int (n : Nat))).length ≤ 31 := by
        simp only [PyData.shown]
        show (Str.ofString (toString (n : Int))).length ≤ 31
        rw [PySem.ofString_length]
        exact int_text_length_le10 (k := 30) (by decide) (by simpa using hn)
      have h3 : (PyData.shown (.str (Str.ofString "many"))).length ≤ 10 * 4 + 2 := shown_str sok_lit (by decide +kernel)
      have h4 : (PyData.shown (.bool true)).length ≤ 10 := by
        simp only [PyData.shown]
        decide +kernel
      have h5 := tupleText_len_le [PyData.shown (.str (Str.ofString "many")), PyData.shown (.int (n : Nat)), PyData.shown (.bool true)]
      simp only [List.map_cons, List.map_nil, List.sum_cons, List.sum_nil, List.length_cons, List.length_nil] at h5
      have e : PyData.shown (.tuple [.str (Str.ofString "many"), .int (n : Nat), .bool true]) = tupleText [PyData.shown (.str (Str.ofString "many")), PyData.shown (.int (n : Nat)), PyData.shown (.bool true)] := by
        have e2 := shownAll_map (g := fun x : PyData => x) (l := [.str (Str.ofString "many"), .int (n : Nat), .bool true])
        rw [List.map_id'] at e2
        have e1 : PyData.shown (.tuple [.str (Str.ofString "many"), .int (n : Nat), .bool true]) = tupleText (PyData.shownAll [.str (Str.ofString "many"), .int (n : Nat), .bool true]) := by
          rw [PyData.shown.eq_6]
        rw [e1, e2]
        rfl
      rw [e]
      have := line_big
      omega
  have q1 := qRepr_of h1 rk
  have q2 : eqP (manyP n) (manyP n) = some true := by
    show deepP (manyP n) (manyP n) = _
    unfold deepP
    rw [h1]
    simp [SeqAt.shaped, PyData.canLay0, PyData.canLayAll0, PyData.eqv, PyData.eqvAll, PyData.depth, PyData.depthAll]
    decide +kernel
  refine W.eq ?_
  unfold V__law_same
  have q3 : tyP (manyP n) = some "tuple" := rfl
  generalize manyP n = Z at *
  simp [b__law_same, q1, q2, q3]
set_option maxHeartbeats 4000000 in
theorem told_w {T : List Str} {m c : Nat} (τ : Tau) (b : TB T m c) : V__law_told [.tup (T.map P.str), .int (c : Nat), .int (m : Nat)] τ = some (.ok (if wF T.length c m ≤ 300 then .tup (outP (RW T m c c)) else manyP (wF T.length c m)), τ) := by
  refine W.eq ?_
  unfold V__law_told
  simp [b__law_told]
  refine (text_rows_w τ b).mono ?_ ?_
  · rintro p τ' ⟨rfl, h, rfl⟩
    simp [h]
  · rintro e τ' ⟨rfl, h, rfl⟩
    have h' : ¬ wF T.length c m ≤ 300 := by omega
    have z3 : 3 ≤ sizeLine := by have := line_big; omega
    rw [manyX, WH.cons]
    simp [XP.fs, XP.val, VL.prP, lookF, manyP, z3, h']
end LW
namespace LW
open PySem PySem.Spec PyProof.Rows L2 RT RZ DL VL
/-! ### the law's texts -/
def MN : List Str := [Str.ofString "", Str.ofString "v1", Str.ofString "v2", Str.ofString "c1", Str.ofString "b", Str.ofString "v3", Str.ofString "x y", Str.ofString "null", Str.ofString "c2", Str.ofString "V1", Str.ofString "v10", Str.ofString "p1"]
theorem MN_ok : (∀ x ∈ MN, SOk x ∧ x.length ≤ 4) ∧ MN.length = 12 := by unfold SOk; decide +kernel
def SG : Str := Str.ofString "~A0z"
theorem SG_ok : SOk SG ∧ SG.cps.toList.length = 4 ∧ SG.length = 4 := by unfold SOk; decide +kernel
def sW : Str := Str.ofString "w"
theorem sW_ok : SOk sW ∧ sW.length = 1 := by unfold SOk; decide +kernel
theorem sok_cut {z : Str} (h : SOk z) (lo hi : Option Int) : SOk (cutS z lo hi) := sok_of fun c hc => by
  have : TL.tl (cutS z lo hi) = (z.cps.toList.drop (HT.sIx z.length 0 lo)).take (HT.sIx z.length z.length hi - HT.sIx z.length 0 lo) := rfl
  rw [this] at hc
  exact sok_to h c (List.mem_of_mem_drop (List.mem_of_mem_take hc))
theorem pSl_str' {z : Str} (lo hi : Option Int) (h : z.length ≤ sizeLine) : pSl (.str z) lo hi = some (.str (cutS z lo hi)) := if_pos h
set_option maxHeartbeats 4000000 in
theorem law_texts_w (τ : Tau) {many : Nat} (hm : many ≤ 10) {Q : P → Tau → Prop} {E : XP → Tau → Prop} (q : ∀ (L : List Str) τ', L.length = many → (∀ x ∈ L, SOk x ∧ x.length ≤ 20) → Q (.lst (L.map P.str)) τ') : W (V__law_texts [.tape, .int (many : Nat)] τ) Q E := by
  have lb := line_big
  have s12 : 12 ≤ sizeLine := by omega
  have z0 : 0 ≤ sizeLine := by omega
  have rg : RgB (many : Int) := .of (by omega)
  unfold V__law_texts
  simp [b__law_texts, s12, z0, rg]
  refine WF.rngN (fun j pe _ => ∃ (L : List Str) (u4 u5 u6 : Option P), pe = [some .tape, some (.int (many : Nat)), some (.lst (MN.map P.str)), some (.own (L.map P.str)), u4, u5, u6] ∧ L.length = j ∧ ∀ x ∈ L, SOk x ∧ x.length ≤ 20) ⟨[], none, none, none, rfl, rfl, fun x hx => by cases hx⟩ ?_ ?_
  · rintro j pe τ1 hj ⟨L, u4, u5, u6, rfl, lL, ok⟩
    obtain ⟨W3, hW⟩ : ∃ t, t = (vSeq (vIfS (vBl (vOp pIn (vVar 6) (vVar 3))) (vAsg (.nm 6) (vOp pAdd (vC (.str (Str.ofString "w"))) (vCB qStr (vCons (vVar 4) vNil)))) vNext) (vAppend 3 (vVar 6))) := ⟨_, rfl⟩
    have eb : ∀ G : MirV, b__law_texts_1 G = (vSeq (vAsg (.nm 5) (vCall G (vCons (vVar 0) (vCons (vC (.int 480)) vNil)))) (vSeq (vAsg (.nm 6) (vOp pIx (vVar 2) (vOp pMod (vCB qInt (vCons (vVar 5) vNil)) (vC (.int 12))))) (vSeq (vIfS (vBl (vOp pEq (vOp pMod (vCB qInt (vCons (vOp pFdiv (vVar 5) (vC (.int 12))) vNil)) (vC (.int 3))) (vC (.int 0)))) (vAsg (.nm 6) (vOp pAdd (vSl (vVar 6) none (some (vC (.int 3)))) (vOp pMul (vOp pIx (vC (.str (Str.ofString "~A0z"))) (vOp pMod (vCB qInt (vCons (vOp pFdiv (vVar 5) (vC (.int 36))) vNil)) (vC (.int 4)))) (vOp pAdd (vC (.int 1)) (vCB qInt (vCons (vOp pFdiv (vVar 5) (vC (.int 144))) vNil)))))) vNext) W3))) := fun G => by rw [hW]; rfl
    have tl : ∀ (y : Str) (e5 : Option P) (τ2 : Tau), SOk y → y.length ≤ 20 → WP W3 [some .tape, some (.int (many : Nat)), some (.lst (MN.map P.str)), some (.own (L.map P.str)), some (.int (j : Nat)), e5, some (.str y)] τ2 fun o pe _ => o = .nx ∧ ∃ (L : List Str) (u4 u5 u6 : Option P), pe = [some .tape, some (.int (many : Nat)), some (.lst (MN.map P.str)), some (.own (L.map P.str)), u4, u5, u6] ∧ L.length = j + 1 ∧ ∀ x ∈ L, SOk x ∧ x.length ≤ 20 := by
      intro y e5 τ2 h1 h2
      subst hW
      have zL : L.length < sizeLine := by omega
      have a1 : qStr [.int (j : Int)] = some (.str (num j)) := qStr_num (by omega)
      have nl := num_len (k := j) (by omega)
      have wl := sW_ok.2
      have a2 : pAdd (.str (Str.ofString "w")) (.str (num j)) = some (.str (sW ++ num j)) := pAdd_str sW (num j) (by omega)
      have snoc : ∀ z : Str, SOk z → z.length ≤ 20 → ∀ x ∈ L ++ [z], SOk x ∧ x.length ≤ 20 := fun z g1 g2 x hx => (List.mem_append.mp hx).elim (ok x) fun h => by
        obtain rfl := List.mem_singleton.mp h
        exact ⟨g1, g2⟩
      by_cases g : y ∈ L
      · simp [g, a1, a2, zL]
        exact ⟨L ++ [sW ++ num j], by simp, by simp [lL], snoc _ (sok_app sW_ok.1 (sok_num j)) (by rw [len_app]; omega)⟩
      · simp [g, zL]
        exact ⟨L ++ [y], by simp, by simp [lL], snoc _ h1 h2⟩
    clear hW
    simp [eb]
    refine draw_w fun n τ2 hn => ?_
    simp
    obtain ⟨x, hx, hmx⟩ := get12 (l := MN) (i := (n : Int) % 12) (by omega) (by rw [MN_ok.2]; omega)
    obtain ⟨x1, x2⟩ := MN_ok.1 x hmx
    have hat := at_of (f := P.str) hx
    have f12 : pFdiv (.int n) (.int 12) = some (.int ((n : Int) / 12)) := pFdiv_int _ _ ⟨by decide, by decide⟩
    have f36 : pFdiv (.int n) (.int 36) = some (.int ((n : Int) / 36)) := pFdiv_int _ _ ⟨by decide, by decide⟩
    have f144 : pFdiv (.int n) (.int 144) = some (.int ((n : Int) / 144)) := pFdiv_int _ _ ⟨by decide, by decide⟩
    simp [hat, f12]
    refine iteP.mk (fun h => ?_) fun h => ?_
    · obtain ⟨c1, h1, c1m⟩ := get12 (l := SG.cps.toList) (i := ((n : Int) / 36) % 4) (by omega) (by rw [SG_ok.2.1]; omega)
      have g1 : pIx (.str (Str.ofString "~A0z")) (.int (((n : Int) / 36) % 4)) = some (.str ⟨#[c1]⟩) := pIx_str (x := SG) (by have := SG_ok.2.2; omega) h1
      have k1 : c1 < 0x110000 := sok_to SG_ok.1 c1 c1m
      obtain ⟨len, hlen⟩ : ∃ len : Int, len = 1 + (n : Int) / 144 := ⟨_, rfl⟩
      have l0 : 0 ≤ len := by omega
      have l4 : len ≤ 4 := by omega
      have m1 : MulOk ⟨#[c1]⟩ len := mulOk_of 1 12 (Nat.le_refl _) (by omega) (by omega) (by decide) (by decide)
      have m2 : (Txt.mul ⟨#[c1]⟩ len).length ≤ len.toNat := len_mul_one (c := c1) rfl (by omega)
      have e1 := pMul_str _ _ m1
      have e2 := pSl_str' (z := x) none (some 3) (by omega)
      have cl : (cutS x none (some 3)).length ≤ x.length := cutS_length x none (some 3)
      have e3 := pAdd_str (cutS x none (some 3)) (Txt.mul ⟨#[c1]⟩ len) (by omega)
      have so : SOk (cutS x none (some 3) ++ Txt.mul ⟨#[c1]⟩ len) := sok_app (sok_cut x1 _ _) (sok_of fun c hc => by
        have e1 : TL.tl (Txt.mul ⟨#[c1]⟩ len) = List.replicate len.toNat c1 := mul_one_list c1 len
        rw [e1] at hc
        rw [List.eq_of_mem_replicate hc]
        exact k1)
      have sl : (cutS x none (some 3) ++ Txt.mul ⟨#[c1]⟩ len).length ≤ 20 := by rw [len_app]; omega
      rw [hlen] at e1 e3 so sl
      generalize (⟨#[c1]⟩ : Str) = w1 at *
      simp [e2, f36, f144, g1, e1, e3]
      refine (tl _ _ τ2 so sl).mono ?_
      rintro o pe τ3 ⟨rfl, h⟩
      simpa using h
    · refine (tl x _ τ2 x1 (by omega)).mono ?_
      rintro o pe τ3 ⟨rfl, h⟩
      simpa using h
  · rintro pe τ1 ⟨L, u4, u5, u6, rfl, lL, ok⟩
    simp
    exact q L τ1 lL ok
end LW
namespace LW
open PySem PySem.Spec PyProof.Rows L2 RT RZ DL VL
/-! ### the law -/
theorem intsP_nat : ∀ l : List Nat, intsP (l.map fun w => P.int (w : Nat)) = some (l.map fun w : Nat => (w : Int))
  | [] => rfl
  | x :: l => by simp [intsP, intsP_nat l]
theorem qSum_ways (n c : Nat) : qSum [.lst ((wL n c).map fun w => P.int (w : Nat))] = some (.int ((wL n c).map fun w : Nat => (w : Int)).sum) := by
  unfold qSum
  simp only [lstOf, intsP_nat]
theorem sum_zero (n : Nat) : ((wL n 0).map fun w : Nat => (w : Int)).sum = 1 := rfl
def sS : Str := Str.ofString "s"
theorem sS_ok : SOk sS ∧ sS.length = 1 := by unfold SOk; decide +kernel
def CL (v : Nat) : List Nat := [0, 1, 1, 2, 2, 3, 4, 5 + v]
set_option maxHeartbeats 8000000 in
theorem law_end3 {T : List Str} {c : Nat} {e8 : Option P} (τ : Tau) (hT : TX T) (hc : c ≤ 8) : WP T_law_3 [none, some .tape, some (.lst (T.map P.str)), some (.int (c : Nat)), none, none, none, none, e8] τ fun o _ _ => o = .rt (.bl true) := by
  have lb := line_big
  have lT := hT.len
  simp only [t_law_3]
  have s8 : 8 ≤ sizeLine := by omega
  have zT : T.length ≤ sizeLine := by omega
  have r8 : RgB (8 : Int) := .of (by decide)
  simp [r8]
  refine WF.rngN (n := 8) (fun j pe _ => ∃ (c : Nat) (e4 : Option P), pe = [none, some .tape, some (.lst (T.map P.str)), some (.int (c : Nat)), e4, none, none, none, e8] ∧ c ≤ 8) ⟨c, none, rfl, hc⟩ ?_ ?_
  · rintro j pe τ1 hj ⟨c, e4, rfl, hc⟩
    have q1 := ways_v (n := T.length) (c := c) τ1 (by omega) hc
    have q2 := qSum_ways T.length c
    simp [b_law_1, q1, q2, zT]
    refine iteP.mk (fun h => ?_) fun h => ?_
    · have hp : 0 < c := by
        refine Nat.pos_of_ne_zero fun z => ?_
        subst z
        rw [sum_zero] at h
        omega
      simp
      exact ⟨c - 1, by omega, by omega⟩
    · exact ⟨c, _, rfl, hc⟩
  · rintro pe τ1 ⟨c, e4, rfl, hc⟩
    simp
    refine draw_wn (m := c + 1) (fun m τ2 hm => ?_)
    have b : TB T m c := ⟨by omega, hc, by omega⟩
    have q1 := ways_v (n := T.length) (c := c) τ2 (by omega) hc
    have q2 := many_rows_v (n := T.length) (c := c) (m := m) τ2 (by omega) hc b.hm
    have q3 := wL_at (n := T.length) (i := c) (j := m) b.hm
    have q4 := told_w τ2 b
    have wb : wF T.length c m < 10 ^ 30 := by
      have h1 := wF_le (n := T.length) (i := c) (j := m) (c := 8) (by omega)
      have h2 : (T.length + 8 + 1) ^ c ≤ 319 ^ c := Nat.pow_le_pow_left (by omega) c
      have h3 : 319 ^ c ≤ 319 ^ 8 := Nat.pow_le_pow_right (by omega) hc
      have h4 : (319 : Nat) ^ 8 < 10 ^ 30 := by decide
      omega
    simp [q1, q2, q3, zT]
    have z3 : 3 ≤ sizeLine := by omega
    have pT : qTuple [.lst (T.map P.str)] = some (.tup (T.map P.str)) := rfl
    simp only [t_law_8, t_law_9]
    by_cases w : wF T.length c m ≤ 300
    · have w' : ¬ (300 : Int) < (wF T.length c m : Nat) := by omega
      have q5 := law_rows_w τ2 b w
      have q6 := same_rows τ2 b hT w
      have p2 : qTuple [.lst (outP (RW T m c c))] = some (.tup (outP (RW T m c c))) := rfl
      rw [if_pos w] at q4
      generalize outP (RW T m c c) = Z at *
      simp [w', q4, q5, q6, pT, p2]
    · have w' : (300 : Int) < (wF T.length c m : Nat) := by omega
      have q6 := same_many τ2 wb
      rw [if_neg w] at q4
      unfold manyP at q4 q6
      simp [w', q4, q6, pT, z3]
set_option maxHeartbeats 8000000 in
theorem law_true : ∀ ns : List Int, ns.length ≤ 63 → ∃ S', F_law [.ref 0] [.rol (ns.map D.int)] = some (.ok (.bl true), S') := law_of fun τ => by
  refine law_w ?_
  have lb := line_big
  have s8 : 8 ≤ sizeLine := by omega
  simp [V_law, b_law, s8]
  refine draw_w fun d τ1 hd => ?_
  simp
  refine law_texts_w (many := d) τ1 (by omega) fun L τ2 lL okL => ?_
  simp [s8]
  refine draw_w fun v τ3 hv => ?_
  simp [s8]
  refine draw_w fun ci τ4 hci => ?_
  simp
  refine at_nums (CL v) rfl (by show ci < 8; omega) fun c hc => ?_
  have hc : c ≤ 8 := by
    simp [CL] at hc
    omega
  simp
  refine draw_w fun w τ5 hw => ?_
  have zL : L.length ≤ sizeLine := by omega
  simp
  refine iteP.mk (fun h => ?_) fun h => ?_
  · simp [zL]
    refine draw_w (fun n τ6 hn => ?_) (by omega) (by omega)
    have rn : RgB (n : Int) := .of (by omega)
    have zn : n ≤ sizeLine := by omega
    simp [rn, zn]
    refine WL.rng (n := n) (m := (n : Int)) (fun j acc τ' => acc = ((List.range j).map fun k => P.str (sS ++ num k)) ∧ τ' = τ6) ⟨rfl, rfl⟩ ?_ ?_
    · rintro j acc τ' hj ⟨rfl, rfl⟩
      have q1 : qStr [.int (j : Int)] = some (.str (num j)) := qStr_num (by omega)
      have nl := num_len (k := j) (by omega)
      have sl := sS_ok.2
      have q2 : pAdd (.str (Str.ofString "s")) (.str (num j)) = some (.str (sS ++ num j)) := pAdd_str sS (num j) (by omega)
      simp [q1, q2, List.range_succ]
    · rintro acc τ' ⟨rfl, rfl⟩
      have zz : L.length + n ≤ sizeLine := by omega
      simp [zz]
      have e : L.map P.str ++ ((List.range n).map fun k => P.str (sS ++ num k)) = (L ++ (List.range n).map fun k => sS ++ num k).map P.str := by
        rw [List.map_append, List.map_map]
        rfl
      rw [e]
      refine law_end3 τ' ⟨by simp; omega, fun x hx => ?_⟩ hc
      rcases List.mem_append.mp hx with hx | hx
      · exact okL x hx
      · obtain ⟨k, hk, rfl⟩ := List.mem_map.mp hx
        have hk := List.mem_range.mp hk
        have nl := num_len (k := k) (by omega)
        have sl := sS_ok.2
        exact ⟨sok_app sS_ok.1 (sok_num k), by rw [len_app]; omega⟩
  · exact law_end3 τ5 ⟨by omega, okL⟩ hc
end LW
namespace LW
open PySem PySem.Spec PyProof.Rows L2 RT RZ DL
set_option maxHeartbeats 16000000 in
theorem all_mk {l : PySem.W.OpenLaw} {w : World} {K : PySem.W.Frag} {h : Heap} {mg : Str → Option Value} {fa f0 f1 f2 f3 f4 f5 f6 f7 f8 f9 f10 f11 f12 f13 : Addr} (X : K.In h) (G : h.Ns mainGlobals mg) (hfa : mg "law" = some (.ref fa))
    {kD1 kT1 : Addr} {oe1 : Option Addr} {kn1 : Nat} {se1 : Array (Option Value)}
    {od0 an0 od1 an1 od2 an2 od3 an3 od4 an4 od5 an5 od6 an6 od7 an7 od8 an8 od9 an9 od10 an10 od11 an11 od12 an12 od13 an13 : Option Addr} {sl0 sl1 sl2 sl3 sl4 sl5 sl6 sl7 sl8 sl9 sl10 sl11 sl12 sl13 : Array (Option Value)} {oc0 kV0 dc0 pm0 cd0 ct0 oc1 dc1 pm1 cd1 ct1 oc2 kV2 dc2 pm2 cd2 ct2 oc3 kV3 dc3 pm3 cd3 ct3 oc4 kV4 dc4 pm4 cd4 ct4 oc5 kV5 dc5 pm5 cd5 ct5 oc6 kV6 dc6 pm6 cd6 ct6 oc7 kV7 dc7 pm7 cd7 ct7 oc8 kV8 dc8 pm8 cd8 ct8 oc9 kV9 dc9 pm9 cd9 ct9 oc10 kV10 dc10 pm10 cd10 ct10 oc11 kV11 dc11 pm11 cd11 ct11 oc12 kV12 dc12 pm12 cd12 ct12 oc13 kV13 dc13 pm13 cd13 ct13 : Value}
    (a0 : PySem.W.nsIn K mainGlobals "numbered_texts" = some (some (.ref f0))) (l0 : K.lookup f0 = some ⟨oc0, od0, .func (PySem.W.fnOf "numbered_texts" "numbered_texts" (defArgs s_numbered_texts) (defBody s_numbered_texts) (defScope s_numbered_texts) .none kV0 dc0 pm0 an0 cd0 ct0), sl0⟩) (c0 : PySem.W.codeIn K cd0 "numbered_texts" = true) (k0 : PySem.W.keepIn K (.ref f0) = true)
    (a1 : PySem.W.nsIn K mainGlobals "sample_texts" = some (some (.ref f1))) (l1 : K.lookup f1 = some ⟨oc1, od1, .func (PySem.W.fnOf "sample_texts" "sample_texts" (defArgs s_sample_texts) (defBody s_sample_texts) (defScope s_sample_texts) .none (.ref kD1) dc1 pm1 an1 cd1 ct1), sl1⟩) (c1 : PySem.W.codeIn K cd1 "sample_texts" = true) (k1 : PySem.W.keepIn K (.ref f1) = true) (n1 : PySem.W.nsIn K kD1 "but" = some (some (.ref kT1))) (t1 : K.lookup kT1 = some ⟨.type "tuple", oe1, .seq #[] kn1, se1⟩)
    (a2 : PySem.W.nsIn K mainGlobals "many_text_rows" = some (some (.ref f2))) (l2 : K.lookup f2 = some ⟨oc2, od2, .func (PySem.W.fnOf "many_text_rows" "many_text_rows" (defArgs s_many_text_rows) (defBody s_many_text_rows) (defScope s_many_text_rows) .none kV2 dc2 pm2 an2 cd2 ct2), sl2⟩) (c2 : PySem.W.codeIn K cd2 "many_text_rows" = true) (k2 : PySem.W.keepIn K (.ref f2) = true)
    (a3 : PySem.W.nsIn K mainGlobals "with_text" = some (some (.ref f3))) (l3 : K.lookup f3 = some ⟨oc3, od3, .func (PySem.W.fnOf "with_text" "with_text" (defArgs s_with_text) (defBody s_with_text) (defScope s_with_text) .none kV3 dc3 pm3 an3 cd3 ct3), sl3⟩) (c3 : PySem.W.codeIn K cd3 "with_text" = true) (k3 : PySem.W.keepIn K (.ref f3) = true)
    (a4 : PySem.W.nsIn K mainGlobals "text_rows" = some (some (.ref f4))) (l4 : K.lookup f4 = some ⟨oc4, od4, .func (PySem.W.fnOf "text_rows" "text_rows" (defArgs s_text_rows) (defBody s_text_rows) (defScope s_text_rows) .none kV4 dc4 pm4 an4 cd4 ct4), sl4⟩) (c4 : PySem.W.codeIn K cd4 "text_rows" = true) (k4 : PySem.W.keepIn K (.ref f4) = true)
    (a5 : PySem.W.nsIn K mainGlobals "_law_tape" = some (some (.ref f5))) (l5 : K.lookup f5 = some ⟨oc5, od5, .func (PySem.W.fnOf "_law_tape" "_law_tape" (defArgs s__law_tape) (defBody s__law_tape) (defScope s__law_tape) .none kV5 dc5 pm5 an5 cd5 ct5), sl5⟩) (c5 : PySem.W.codeIn K cd5 "_law_tape" = true) (k5 : PySem.W.keepIn K (.ref f5) = true)
    (a6 : PySem.W.nsIn K mainGlobals "_law_draw" = some (some (.ref f6))) (l6 : K.lookup f6 = some ⟨oc6, od6, .func (PySem.W.fnOf "_law_draw" "_law_draw" (defArgs s__law_draw) (defBody s__law_draw) (defScope s__law_draw) .none kV6 dc6 pm6 an6 cd6 ct6), sl6⟩) (c6 : PySem.W.codeIn K cd6 "_law_draw" = true) (k6 : PySem.W.keepIn K (.ref f6) = true)
    (a7 : PySem.W.nsIn K mainGlobals "_law_texts" = some (some (.ref f7))) (l7 : K.lookup f7 = some ⟨oc7, od7, .func (PySem.W.fnOf "_law_texts" "_law_texts" (defArgs s__law_texts) (defBody s__law_texts) (defScope s__law_texts) .none kV7 dc7 pm7 an7 cd7 ct7), sl7⟩) (c7 : PySem.W.codeIn K cd7 "_law_texts" = true) (k7 : PySem.W.keepIn K (.ref f7) = true)
    (a8 : PySem.W.nsIn K mainGlobals "_law_fresh" = some (some (.ref f8))) (l8 : K.lookup f8 = some ⟨oc8, od8, .func (PySem.W.fnOf "_law_fresh" "_law_fresh" (defArgs s__law_fresh) (defBody s__law_fresh) (defScope s__law_fresh) .none kV8 dc8 pm8 an8 cd8 ct8), sl8⟩) (c8 : PySem.W.codeIn K cd8 "_law_fresh" = true) (k8 : PySem.W.keepIn K (.ref f8) = true)
    (a9 : PySem.W.nsIn K mainGlobals "_law_same" = some (some (.ref f9))) (l9 : K.lookup f9 = some ⟨oc9, od9, .func (PySem.W.fnOf "_law_same" "_law_same" (defArgs s__law_same) (defBody s__law_same) (defScope s__law_same) .none kV9 dc9 pm9 an9 cd9 ct9), sl9⟩) (c9 : PySem.W.codeIn K cd9 "_law_same" = true) (k9 : PySem.W.keepIn K (.ref f9) = true)
    (a10 : PySem.W.nsIn K mainGlobals "_law_ways" = some (some (.ref f10))) (l10 : K.lookup f10 = some ⟨oc10, od10, .func (PySem.W.fnOf "_law_ways" "_law_ways" (defArgs s__law_ways) (defBody s__law_ways) (defScope s__law_ways) .none kV10 dc10 pm10 an10 cd10 ct10), sl10⟩) (c10 : PySem.W.codeIn K cd10 "_law_ways" = true) (k10 : PySem.W.keepIn K (.ref f10) = true)
    (a11 : PySem.W.nsIn K mainGlobals "_law_text_rows" = some (some (.ref f11))) (l11 : K.lookup f11 = some ⟨oc11, od11, .func (PySem.W.fnOf "_law_text_rows" "_law_text_rows" (defArgs s__law_text_rows) (defBody s__law_text_rows) (defScope s__law_text_rows) .none kV11 dc11 pm11 an11 cd11 ct11), sl11⟩) (c11 : PySem.W.codeIn K cd11 "_law_text_rows" = true) (k11 : PySem.W.keepIn K (.ref f11) = true)
    (a12 : PySem.W.nsIn K mainGlobals "_law_told" = some (some (.ref f12))) (l12 : K.lookup f12 = some ⟨oc12, od12, .func (PySem.W.fnOf "_law_told" "_law_told" (defArgs s__law_told) (defBody s__law_told) (defScope s__law_told) .none kV12 dc12 pm12 an12 cd12 ct12), sl12⟩) (c12 : PySem.W.codeIn K cd12 "_law_told" = true) (k12 : PySem.W.keepIn K (.ref f12) = true)
    (a13 : PySem.W.nsIn K mainGlobals "law" = some (some (.ref f13))) (l13 : K.lookup f13 = some ⟨oc13, od13, .func (PySem.W.fnOf "law" "law" (defArgs s_law) (defBody s_law) (defScope s_law) .none kV13 dc13 pm13 an13 cd13 ct13), sl13⟩) (c13 : PySem.W.codeIn K cd13 "law" = true) (k13 : PySem.W.keepIn K (.ref f13) = true)
    {gt_MOST_CASES : Tok} (ga_MOST_CASES : PySem.W.nsIn K mainGlobals "MOST_CASES" = some (some (.int  300 gt_MOST_CASES)))
    {eC_MigrationError eC_TooManyCases : Addr}
    {eN_TooManyCases : Addr}
    {eA_TooManyCases eB_TooManyCases : Str}
    {eL_TooManyCases eU_TooManyCases : List Value}
    {eS_TooManyCases : List Str} {eD_TooManyCases : Bool} {eE_TooManyCases : Option Bool} {eF_TooManyCases : Option Addr} {e0_TooManyCases e1_TooManyCases e2_TooManyCases e3_TooManyCases e5_TooManyCases : Option Value}
    (ek_sp : PySem.W.specialIn K (.builtin "object.__class__") "__get__" = some (some (.builtin "getset_descriptor.__get__")))
    (ek_tk : PySem.W.takesIn K (.builtin "object.__class__") = some true)
    (ea_MigrationError : PySem.W.nsIn K mainGlobals "MigrationError" = some (some (.ref eC_MigrationError)))
    (ea_TooManyCases : PySem.W.nsIn K mainGlobals "TooManyCases" = some (some (.ref eC_TooManyCases)))
    (el_TooManyCases : K.lookup eC_TooManyCases = some (excClassObj eA_TooManyCases eB_TooManyCases eC_TooManyCases eN_TooManyCases eL_TooManyCases [.ref eC_MigrationError, .type "ValueError", .type "Exception", .type "BaseException", .type "object"] true eS_TooManyCases eU_TooManyCases eD_TooManyCases eE_TooManyCases eF_TooManyCases e0_TooManyCases e1_TooManyCases e2_TooManyCases e3_TooManyCases e5_TooManyCases "ValueError.__new__"))
    (eg_TooManyCases : PySem.W.findIn K (.ref eC_TooManyCases) "__getattribute__" = some (some (.builtin "BaseException.__getattribute__")))
    (et_TooManyCases : PySem.W.findIn K (.ref eC_TooManyCases) "__getattr__" = some none)
    (es_TooManyCases : PySem.W.subIn K (.ref eC_TooManyCases) (.type "BaseException") = some true)
    (eh_TooManyCases : PySem.W.hasDictIn K eC_TooManyCases = true)
    (ec_TooManyCases : PySem.W.findIn K (.ref eC_TooManyCases) "__class__" = some (some (.builtin "object.__class__")))
    (eo_TooManyCases : PySem.W.mroIn K eC_TooManyCases (.type "object") = some true)
    (ey_TooManyCases : PySem.W.typeIn K (.ref eC_TooManyCases) = some (.type "type"))
    {eI_TooManyCases eW_TooManyCases eX_TooManyCases : Addr}
    {ev0_TooManyCases ev1_TooManyCases ev2_TooManyCases ev3_TooManyCases ev4_TooManyCases ev5_TooManyCases : Value}
    {eo0_TooManyCases eo1_TooManyCases eo2_TooManyCases eo3_TooManyCases : Option Addr}
    {es0_TooManyCases es1_TooManyCases es2_TooManyCases : Array (Option Value)} {eV_TooManyCases : Array Value} {eP_TooManyCases : Str} {eT_TooManyCases : Tok}
    (ek_op : PySem.W.nsIn K cStatics "thirdparty.any" = some none)
    (ek_tp : (l.prog.main.scope.names.lookup ("super" : Str)).isSome = false)
    (ew0_TooManyCases : PySem.W.findIn K (.ref eC_TooManyCases) "__setattr__" = some (some (.builtin "object.__setattr__")))
    (ew1_TooManyCases : PySem.W.findIn K (.ref eC_TooManyCases) "__init__" = some (some (.ref eI_TooManyCases)))
    (ew2_TooManyCases : PySem.W.typeIn K (.ref eI_TooManyCases) = some (.type "function"))
    (ew3_TooManyCases : PySem.W.ks_superIn K eC_TooManyCases eC_TooManyCases "__init__" = some (some (.builtin "ValueError.__init__")))
    (ew4_TooManyCases : PySem.W.subIn K (.ref eC_TooManyCases) (.type "ValueError") = some true)
    (ew5_TooManyCases : PySem.W.mroIn K eC_TooManyCases (.ref eC_TooManyCases) = some true)
    (ew6_TooManyCases : PySem.W.keepIn K (.ref eC_TooManyCases) = true)
    (ew7_TooManyCases : K.lookup eI_TooManyCases = some ⟨ev0_TooManyCases, eo0_TooManyCases, .func (PySem.W.ksFn "__init__" "TooManyCases.__init__" (defArgs i_TooManyCases) (defBody i_TooManyCases) (defScope i_TooManyCases) .none .none ev1_TooManyCases ev2_TooManyCases eo1_TooManyCases (.ref eW_TooManyCases) ev3_TooManyCases eX_TooManyCases), es0_TooManyCases⟩)
    (ew8_TooManyCases : PySem.W.codeIn K (.ref eW_TooManyCases) "TooManyCases.__init__" = true)
    (ew9_TooManyCases : K.lookup eX_TooManyCases = some ⟨ev4_TooManyCases, eo2_TooManyCases, .cell (some (.ref eC_TooManyCases)), es1_TooManyCases⟩)
    (ex0_TooManyCases : K.lookup eW_TooManyCases = some ⟨ev5_TooManyCases, eo3_TooManyCases, .fields eV_TooManyCases, es2_TooManyCases⟩)
    (ex1_TooManyCases : eV_TooManyCases[2]? = some (.str eP_TooManyCases eT_TooManyCases))
    (ex2_TooManyCases : ((l.prog.main.file : Str) == eP_TooManyCases) = true)
    (en0_TooManyCases : PySem.W.findIn K (.ref eC_TooManyCases) "count" = some none)
    (eb_TooManyCases_TooManyCases : PySem.W.subIn K (.ref eC_TooManyCases) (.ref eC_TooManyCases) = some true)
    (eq_MigrationError_TooManyCases : PySem.W.kitOne K (.ref eC_TooManyCases) (.ref eC_MigrationError) = some true)
    (ez_ValueError_TooManyCases : PySem.W.kitOne K (.ref eC_TooManyCases) (.type "ValueError") = some true)
    (z_tuple : PySem.W.nsIn K mainGlobals "tuple" = some none) (z_len : PySem.W.nsIn K mainGlobals "len" = some none) (z_str : PySem.W.nsIn K mainGlobals "str" = some none) (z_range : PySem.W.nsIn K mainGlobals "range" = some none) (z_enumerate : PySem.W.nsIn K mainGlobals "enumerate" = some none) (z_reversed : PySem.W.nsIn K mainGlobals "reversed" = some none) (z_list : PySem.W.nsIn K mainGlobals "list" = some none) (z_int : PySem.W.nsIn K mainGlobals "int" = some none) (z_abs : PySem.W.nsIn K mainGlobals "abs" = some none) (z_max : PySem.W.nsIn K mainGlobals "max" = some none) (z_repr : PySem.W.nsIn K mainGlobals "repr" = some none) (z_isinstance : PySem.W.nsIn K mainGlobals "isinstance" = some none) (z_bool : PySem.W.nsIn K mainGlobals "bool" = some none) (z_ValueError : PySem.W.nsIn K mainGlobals "ValueError" = some none) (z_sum : PySem.W.nsIn K mainGlobals "sum" = some none) (z_super : PySem.W.nsIn K mainGlobals "super" = some none) :
    ∃ fd : FuncData, (∀ (s : Shared) (v : Value), BindsTo s fd ⟨[v], []⟩ [("_law_script", v)]) ∧ ∀ base : Heap, K.In base → base.Ns mainGlobals mg → FnG l.prog w K mg base 5 fa fd ["_law_script"] (spLaw K) := by
  have e := hfa.symm.trans (PySem.W.mg_of X G a13)
  cases e
  have W_TooManyCases : DL.ClsW K eC_TooManyCases := ⟨DL.clsSome el_TooManyCases, eg_TooManyCases, et_TooManyCases, es_TooManyCases, eh_TooManyCases, ec_TooManyCases, ek_sp, ek_tk, eo_TooManyCases, ey_TooManyCases⟩
  have O_TooManyCases : DL.OwnC K eC_TooManyCases eI_TooManyCases := ⟨⟨_, _, _, _, _, _, _, _, _, _, _, _, _, _, _, el_TooManyCases, by first | rfl | (simp only [PySem.HandSPX.refsVE]; decide +kernel)⟩, ew0_TooManyCases, ew1_TooManyCases, ew2_TooManyCases, ew3_TooManyCases, ew4_TooManyCases, ew5_TooManyCases, ek_op, es_TooManyCases, ey_TooManyCases, ew6_TooManyCases⟩
  have I_TooManyCases : DL.InitC l.prog K eC_TooManyCases eI_TooManyCases i_TooManyCases "TooManyCases.__init__" := ⟨⟨_, _, _, _, _, _, _, _, _, _, _, _, _, _, _, _, _, _, ew7_TooManyCases, ew8_TooManyCases, ew9_TooManyCases, ex0_TooManyCases, ex1_TooManyCases, ex2_TooManyCases⟩, ek_tp, ⟨rfl, rfl, rfl, rfl, rfl, rfl, by decide +kernel⟩, ⟨_, rfl, rfl⟩⟩
  have R_TooManyCases : DL.RaiseC l.prog w K mg "TooManyCases" ["count"] := ⟨⟨_, _, O_TooManyCases, DL.initOk1 O_TooManyCases I_TooManyCases (PySem.W.mg_none_of X G z_super) rfl (fun _ _ _ => ⟨_, rfl⟩) (fun _ _ _ _ _ _ _ _ => rfl) rfl (by decide) (by decide) en0_TooManyCases, (PySem.W.mg_of X G ea_TooManyCases), ea_TooManyCases⟩, by decide⟩
  have T : Txt l.prog w K mg := ⟨PySem.W.mg_none_of X G z_tuple, PySem.W.mg_none_of X G z_len, PySem.W.mg_none_of X G z_str, PySem.W.mg_none_of X G z_range, PySem.W.mg_none_of X G z_enumerate, PySem.W.mg_none_of X G z_reversed, PySem.W.mg_none_of X G z_list, PySem.W.mg_none_of X G z_int, PySem.W.mg_none_of X G z_abs, PySem.W.mg_none_of X G z_max, PySem.W.mg_none_of X G z_repr, PySem.W.mg_none_of X G z_isinstance, PySem.W.mg_none_of X G z_bool, PySem.W.mg_none_of X G z_ValueError, PySem.W.mg_none_of X G z_sum, PySem.W.mg_none_of X G z_super, glob_int (PySem.W.mg_of X G ga_MOST_CASES), R_TooManyCases, DL.catch_mk (PySem.W.mg_of X G ea_TooManyCases) W_TooManyCases (DL.tbl_cons ⟨_, ea_TooManyCases, eb_TooManyCases_TooManyCases⟩ DL.tbl_nil), ⟨fun cn h => by simp only [List.mem_cons, List.not_mem_nil, or_false] at h; subst h; exact ⟨_, ea_TooManyCases, W_TooManyCases.xf, en0_TooManyCases⟩⟩, ⟨_, (PySem.W.mg_of X G ea_MigrationError), (DL.tbl_cons ⟨_, ea_TooManyCases, W_TooManyCases.is, eq_MigrationError_TooManyCases⟩ DL.tbl_nil)⟩, ⟨(DL.tbl_cons ⟨_, ea_TooManyCases, W_TooManyCases.is, ez_ValueError_TooManyCases⟩ DL.tbl_nil)⟩⟩
  have F0 := fun_mk (st := s_numbered_texts) l0 c0 k0
  have F1 := fun_mk (st := s_sample_texts) l1 c1 k1
  have F2 := fun_mk (st := s_many_text_rows) l2 c2 k2
  have F3 := fun_mk (st := s_with_text) l3 c3 k3
  have F4 := fun_mk (st := s_text_rows) l4 c4 k4
  have F5 := fun_mk (st := s__law_tape) l5 c5 k5
  have F6 := fun_mk (st := s__law_draw) l6 c6 k6
  have F7 := fun_mk (st := s__law_texts) l7 c7 k7
  have F8 := fun_mk (st := s__law_fresh) l8 c8 k8
  have F9 := fun_mk (st := s__law_same) l9 c9 k9
  have F10 := fun_mk (st := s__law_ways) l10 c10 k10
  have F11 := fun_mk (st := s__law_text_rows) l11 c11 k11
  have F12 := fun_mk (st := s__law_told) l12 c12 k12
  have F13 := fun_mk (st := s_law) l13 c13 k13
  refine ⟨PySem.W.fnOf "law" "law" (defArgs s_law) (defBody s_law) (defScope s_law) .none kV13 dc13 pm13 an13 cd13 ct13, fun s v => .of_eq rfl, fun base _ _ => ?_⟩
  have C_numbered_texts : Cal l.prog w K mg base "numbered_texts" 1 ["letter", "many", "but"] F_numbered_texts := (cal_mk (P := l.prog) (w := w) (base := base) F0 (PySem.W.mg_of X G a0) (ok_numbered_texts T F0) (F0.binds (ps := ["letter", "many", "but"]) fun _ _ _ _ _ _ us hl => match us, hl with | [_, _, _], _ => rfl))
  have CD_sample_texts : CalD l.prog w K mg base "sample_texts" 2 ["many", "but"] F_sample_texts [.tup []] := (calD_mk (P := l.prog) (w := w) (base := base) l1 c1 k1 n1 t1 (PySem.W.mg_of X G a1) (ok_sample_texts T C_numbered_texts F1) (j := 1) rfl (fun _ _ _ _ _ _ us ks h1 h2 => match us, ks, h1, h2 with | [_], [_], _, _ => ⟨_, _, _, _, _, _, rfl, rfl, rfl⟩))
  have CK_sample_texts : CalK l.prog w K mg base "sample_texts" 2 ["many", "but"] F_sample_texts 1 ["but"] := (calK_mk (P := l.prog) (w := w) (base := base) k1 (PySem.W.mg_of X G a1) (ok_sample_texts T C_numbered_texts F1) (fun us ws h1 h2 => match us, ws, h1, h2 with | [_], [_], _, _ => rfl))
  have C_many_text_rows : Cal l.prog w K mg base "many_text_rows" 1 ["length", "columns", "many"] F_many_text_rows := (cal_mk (P := l.prog) (w := w) (base := base) F2 (PySem.W.mg_of X G a2) (ok_many_text_rows T F2) (F2.binds (ps := ["length", "columns", "many"]) fun _ _ _ _ _ _ us hl => match us, hl with | [_, _, _], _ => rfl))
  have C_with_text : Cal l.prog w K mg base "with_text" 1 ["rows", "texts", "samples", "left"] F_with_text := (cal_mk (P := l.prog) (w := w) (base := base) F3 (PySem.W.mg_of X G a3) (ok_with_text T F3) (F3.binds (ps := ["rows", "texts", "samples", "left"]) fun _ _ _ _ _ _ us hl => match us, hl with | [_, _, _, _], _ => rfl))
  have C_text_rows : Cal l.prog w K mg base "text_rows" 3 ["texts", "columns", "many"] F_text_rows := (cal_mk (P := l.prog) (w := w) (base := base) F4 (PySem.W.mg_of X G a4) (ok_text_rows T C_with_text CK_sample_texts C_many_text_rows F4) (F4.binds (ps := ["texts", "columns", "many"]) fun _ _ _ _ _ _ us hl => match us, hl with | [_, _, _], _ => rfl))
  have C__law_tape : Cal l.prog w K mg base "_law_tape" 1 ["_law_script"] F__law_tape := (cal_mk (P := l.prog) (w := w) (base := base) F5 (PySem.W.mg_of X G a5) (ok__law_tape T F5) (F5.binds (ps := ["_law_script"]) fun _ _ _ _ _ _ us hl => match us, hl with | [_], _ => rfl))
  have C__law_draw : Cal l.prog w K mg base "_law_draw" 1 ["_law_tape_here", "_law_many"] F__law_draw := (cal_mk (P := l.prog) (w := w) (base := base) F6 (PySem.W.mg_of X G a6) (ok__law_draw T F6) (F6.binds (ps := ["_law_tape_here", "_law_many"]) fun _ _ _ _ _ _ us hl => match us, hl with | [_, _], _ => rfl))
  have C__law_texts : Cal l.prog w K mg base "_law_texts" 2 ["_law_tape_here", "_law_many"] F__law_texts := (cal_mk (P := l.prog) (w := w) (base := base) F7 (PySem.W.mg_of X G a7) (ok__law_texts T C__law_draw F7) (F7.binds (ps := ["_law_tape_here", "_law_many"]) fun _ _ _ _ _ _ us hl => match us, hl with | [_, _], _ => rfl))
  have C__law_fresh : Cal l.prog w K mg base "_law_fresh" 1 ["_law_sign", "_law_constants", "_law_many"] F__law_fresh := (cal_mk (P := l.prog) (w := w) (base := base) F8 (PySem.W.mg_of X G a8) (ok__law_fresh T F8) (F8.binds (ps := ["_law_sign", "_law_constants", "_law_many"]) fun _ _ _ _ _ _ us hl => match us, hl with | [_, _, _], _ => rfl))
  have C__law_same : CalG l.prog w K mg base "_law_same" 1 ["_law_told_here", "_law_due"] F__law_same := (calG_mk (P := l.prog) (w := w) (base := base) F9 (PySem.W.mg_of X G a9) (ok__law_same T F9) (F9.binds (ps := ["_law_told_here", "_law_due"]) fun _ _ _ _ _ _ us hl => match us, hl with | [_, _], _ => rfl))
  have C__law_ways : Cal l.prog w K mg base "_law_ways" 1 ["_law_many", "_law_columns"] F__law_ways := (cal_mk (P := l.prog) (w := w) (base := base) F10 (PySem.W.mg_of X G a10) (ok__law_ways T F10) (F10.binds (ps := ["_law_many", "_law_columns"]) fun _ _ _ _ _ _ us hl => match us, hl with | [_, _], _ => rfl))
  have C__law_text_rows : Cal l.prog w K mg base "_law_text_rows" 2 ["_law_texts_here", "_law_columns", "_law_many"] F__law_text_rows := (cal_mk (P := l.prog) (w := w) (base := base) F11 (PySem.W.mg_of X G a11) (ok__law_text_rows T C__law_fresh F11) (F11.binds (ps := ["_law_texts_here", "_law_columns", "_law_many"]) fun _ _ _ _ _ _ us hl => match us, hl with | [_, _, _], _ => rfl))
  have C__law_told : Cal l.prog w K mg base "_law_told" 4 ["_law_texts_here", "_law_columns", "_law_many"] F__law_told := (cal_mk (P := l.prog) (w := w) (base := base) F12 (PySem.W.mg_of X G a12) (ok__law_told T C_text_rows F12) (F12.binds (ps := ["_law_texts_here", "_law_columns", "_law_many"]) fun _ _ _ _ _ _ us hl => match us, hl with | [_, _, _], _ => rfl))
  exact (ok_law T C__law_same C__law_text_rows C__law_told C_many_text_rows C__law_ways C__law_draw C__law_texts C__law_tape F13).imp (spLaw_imp law_true)
end LW
open PySem PySem.W PyProof.Rows in
set_option maxRecDepth 100000 in
set_option maxHeartbeats 0 in
theorem PySem.Challenge.cw_migraproof_k79_text_rows_in_order_holds : PySem.Challenge.rw_migraproof_k79_text_rows_in_order.Holds := by
  w_on; o_law; k_head; (case hw => w_witness2)
  k_fill
  refine DL.walk_ofG (l := PySem.Challenge.rw_migraproof_k79_text_rows_in_order) (n := 63) (k := 5) (x := "_law_script") (sp := fun w => DL.spLaw _) rfl (by decide) rfl ⟨rfl, by decide, by decide⟩ (fun w h Y => PySem.W.kIn_of Y) ?F (fun _ _ a ns hl hb ho hS => ⟨a, ns, rfl, hl, ho, hS, fun _ => rfl⟩)
  case F =>
    intro w mg fa h KX G hmg
    refine' LW.all_mk KX G hmg ?a0 ?l0 ?c0 ?k0 ?a1 ?l1 ?c1 ?k1 ?n1 ?t1 ?a2 ?l2 ?c2 ?k2 ?a3 ?l3 ?c3 ?k3 ?a4 ?l4 ?c4 ?k4 ?a5 ?l5 ?c5 ?k5 ?a6 ?l6 ?c6 ?k6 ?a7 ?l7 ?c7 ?k7 ?a8 ?l8 ?c8 ?k8 ?a9 ?l9 ?c9 ?k9 ?a10 ?l10 ?c10 ?k10 ?a11 ?l11 ?c11 ?k11 ?a12 ?l12 ?c12 ?k12 ?a13 ?l13 ?c13 ?k13 ?ga_MOST_CASES ?ek_sp ?ek_tk ?ea_MigrationError ?ea_TooManyCases ?el_TooManyCases ?eg_TooManyCases ?et_TooManyCases ?es_TooManyCases ?eh_TooManyCases ?ec_TooManyCases ?eo_TooManyCases ?ey_TooManyCases ?ek_op ?ek_tp ?ew0_TooManyCases ?ew1_TooManyCases ?ew2_TooManyCases ?ew3_TooManyCases ?ew4_TooManyCases ?ew5_TooManyCases ?ew6_TooManyCases ?ew7_TooManyCases ?ew8_TooManyCases ?ew9_TooManyCases ?ex0_TooManyCases ?ex1_TooManyCases ?ex2_TooManyCases ?en0_TooManyCases ?eb_TooManyCases_TooManyCases ?eq_MigrationError_TooManyCases ?ez_ValueError_TooManyCases ?z_tuple ?z_len ?z_str ?z_range ?z_enumerate ?z_reversed ?z_list ?z_int ?z_abs ?z_max ?z_repr ?z_isinstance ?z_bool ?z_ValueError ?z_sum ?z_super
    (case a0 => k_is)
    (case l0 => k_is)
    (case c0 => k_is)
    (case k0 => k_is)
    (case a1 => k_is)
    (case l1 => k_is)
    (case c1 => k_is)
    (case k1 => k_is)
    (case n1 => k_is)
    (case t1 => k_is)
    (case a2 => k_is)
    (case l2 => k_is)
    (case c2 => k_is)
    (case k2 => k_is)
    (case a3 => k_is)
    (case l3 => k_is)
    (case c3 => k_is)
    (case k3 => k_is)
    (case a4 => k_is)
    (case l4 => k_is)
    (case c4 => k_is)
    (case k4 => k_is)
    (case a5 => k_is)
    (case l5 => k_is)
    (case c5 => k_is)
    (case k5 => k_is)
    (case a6 => k_is)
    (case l6 => k_is)
    (case c6 => k_is)
    (case k6 => k_is)
    (case a7 => k_is)
    (case l7 => k_is)
    (case c7 => k_is)
    (case k7 => k_is)
    (case a8 => k_is)
    (case l8 => k_is)
    (case c8 => k_is)
    (case k8 => k_is)
    (case a9 => k_is)
    (case l9 => k_is)
    (case c9 => k_is)
    (case k9 => k_is)
    (case a10 => k_is)
    (case l10 => k_is)
    (case c10 => k_is)
    (case k10 => k_is)
    (case a11 => k_is)
    (case l11 => k_is)
    (case c11 => k_is)
    (case k11 => k_is)
    (case a12 => k_is)
    (case l12 => k_is)
    (case c12 => k_is)
    (case k12 => k_is)
    (case a13 => k_is)
    (case l13 => k_is)
    (case c13 => k_is)
    (case k13 => k_is)
    (case ga_MOST_CASES => k_is)
    (case ek_sp => k_is)
    (case ek_tk => k_is)
    (case ea_MigrationError => k_is)
    (case ea_TooManyCases => k_is)
    (case el_TooManyCases => k_is)
    (case eg_TooManyCases => k_is)
    (case et_TooManyCases => k_is)
    (case es_TooManyCases => k_is)
    (case eh_TooManyCases => k_is)
    (case ec_TooManyCases => k_is)
    (case eo_TooManyCases => k_is)
    (case ey_TooManyCases => k_is)
    (case ek_op => k_is)
    (case ek_tp => first | exact rfl | decide +kernel)
    (case ew0_TooManyCases => k_is)
    (case ew1_TooManyCases => k_is)
    (case ew2_TooManyCases => k_is)
    (case ew3_TooManyCases => ks_is)
    (case ew4_TooManyCases => k_is)
    (case ew5_TooManyCases => k_is)
    (case ew6_TooManyCases => k_is)
    (case ew7_TooManyCases => k_is)
    (case ew8_TooManyCases => k_is)
    (case ew9_TooManyCases => k_is)
    (case ex0_TooManyCases => k_is)
    (case ex1_TooManyCases => exact rfl)
    (case ex2_TooManyCases => first | exact rfl | decide +kernel)
    (case en0_TooManyCases => k_is)
    (case eb_TooManyCases_TooManyCases => k_is)
    (case eq_MigrationError_TooManyCases => kit_is)
    (case ez_ValueError_TooManyCases => kit_is)
    (case z_tuple => k_is)
    (case z_len => k_is)
    (case z_str => k_is)
    (case z_range => k_is)
    (case z_enumerate => k_is)
    (case z_reversed => k_is)
    (case z_list => k_is)
    (case z_int => k_is)
    (case z_abs => k_is)
    (case z_max => k_is)
    (case z_repr => k_is)
    (case z_isinstance => k_is)
    (case z_bool => k_is)
    (case z_ValueError => k_is)
    (case z_sum => k_is)
    (case z_super => k_is)
