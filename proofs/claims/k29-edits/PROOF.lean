import PyProof.Rows.All
import Wide.All
import OpenK.AllK
import Wide.FinOn
import HandS.ForMost
import HandS.Walk
import HandS.Rev
import HandS.TupAny
import HandS.IsInst
import HandS.Conv
import HandS.Ends
import HandS.Style
import KE.KRevSl
import KE.GoesMore
import PyProof.Rows.StrStep
import KE.GoesEnum
import HandS.RevTup
import PyProof.ReprBulk
import PySem.Challenge.RW_mendsagree_k29_whole_edits_of_texts
set_option Elab.async false
set_option linter.all false
set_option maxRecDepth 100000
set_option maxHeartbeats 0
/-! DL1: data in the place of addresses: tuples are values, lists and dicts stand in a small store -/
namespace DL
open PySem PySem.Spec PyProof.Rows L2

/-- a value as data; ref: a list, a dict, or any other object by its address -/
inductive D where
  | non | bl (b : Bool) | int (i : Int) | str (x : Str) | tup (ds : List D) | ref (a : Addr) | ty (n : String)
/-- what the store tells of an address: a list, a list that is only read, a dict with plain keys, a dict with tuples as keys -/
inductive DO where
  | lst (ds : List D) | fro (ds : List D) | dK (kvs : List (Key × D)) | dT (kvs : List (List Key × D))
abbrev DS := Addr → Option DO
def DS.set (S : DS) (a : Addr) (o : DO) : DS := fun b => if b = a then some o else S b
theorem set_same {S : DS} {a : Addr} {o : DO} : S.set a o a = some o := by unfold DS.set; rw [if_pos rfl]
theorem set_ne {S : DS} {a b : Addr} {o : DO} (h : b ≠ a) : S.set a o b = S b := by unfold DS.set; rw [if_neg h]
/-- an address that nothing but a read list may have -/
def Fresh (S : DS) (p : Addr) : Prop := ∀ o, S p = some o → ∃ ds, o = .fro ds

mutual
def Dv (K : PySem.W.Frag) (H : Hp) : D → V → Prop
  | .non, v => v = .non
  | .bl b, v => v = .bl b
  | .int i, v => v = .int i
  | .str x, v => v = .str x
  | .ref a, v => v = .ref a
  | .ty n, v => v = .ty n
  | .tup ds, v => ∃ a xs, v = .ref a ∧ SqT K H a xs ∧ DvA K H ds xs
def DvA (K : PySem.W.Frag) (H : Hp) : List D → List V → Prop
  | [], xs => xs = []
  | d :: ds, xs => ∃ v vs, xs = v :: vs ∧ Dv K H d v ∧ DvA K H ds vs
end

def TupLe (K : PySem.W.Frag) (H H' : Hp) : Prop := ∀ a xs, SqT K H a xs → SqT K H' a xs
theorem TupLe.refl {K : PySem.W.Frag} {H : Hp} : TupLe K H H := fun _ _ h => h
theorem TupLe.trans {K : PySem.W.Frag} {H H1 H2 : Hp} (a : TupLe K H H1) (b : TupLe K H1 H2) : TupLe K H H2 := fun c xs h => b c xs (a c xs h)
section
variable {K : PySem.W.Frag} {H H' : Hp}
mutual
theorem Dv.mono (t : TupLe K H H') : ∀ {d : D} {v : V}, Dv K H d v → Dv K H' d v
  | .non, _, h => h
  | .bl _, _, h => h
  | .int _, _, h => h
  | .str _, _, h => h
  | .ref _, _, h => h
  | .ty _, _, h => h
  | .tup _, _, ⟨a, xs, e, q, r⟩ => ⟨a, xs, e, t a xs q, DvA.mono t r⟩
theorem DvA.mono (t : TupLe K H H') : ∀ {ds : List D} {xs : List V}, DvA K H ds xs → DvA K H' ds xs
  | [], _, h => h
  | _ :: _, _, ⟨v, vs, e, h, r⟩ => ⟨v, vs, e, Dv.mono t h, DvA.mono t r⟩
end
theorem DvA.length : ∀ {ds : List D} {xs : List V}, DvA K H ds xs → ds.length = xs.length
  | [], _, h => by
    have h : _ = [] := h
    rw [h] <;> rfl
  | _ :: _, _, ⟨v, vs, e, _, r⟩ => by rw [e, List.length_cons, List.length_cons, DvA.length r]
theorem DvA.get : ∀ {ds : List D} {xs : List V} {i : Nat} {d : D}, DvA K H ds xs → ds[i]? = some d → ∃ v, xs[i]? = some v ∧ Dv K H d v
  | [], _, _, _, _, e => by simp at e
  | _ :: _, _, 0, _, ⟨v, vs, e, h, r⟩, q => by
    have q := Option.some.inj q
    subst q
    exact ⟨v, by rw [e]; rfl, h⟩
  | _ :: ds, _, i + 1, d, ⟨v, vs, e, h, r⟩, q => by
    obtain ⟨u, h1, h2⟩ := DvA.get (i := i) (d := d) r (by simpa using q)
    exact ⟨u, by rw [e]; simpa using h1, h2⟩
theorem DvA.append : ∀ {ds es : List D} {xs ys : List V}, DvA K H ds xs → DvA K H es ys → DvA K H (ds ++ es) (xs ++ ys)
  | [], _, _, _, h, g => by
    have h : _ = [] := h
    rw [h]
    exact g
  | _ :: _, _, _, _, ⟨v, vs, e, h, r⟩, g => ⟨v, vs ++ _, by rw [e]; rfl, h, DvA.append r g⟩
theorem DvA.take : ∀ {ds : List D} {xs : List V} (n : Nat), DvA K H ds xs → DvA K H (ds.take n) (xs.take n)
  | _, _, 0, _ => by simp [DvA]
  | [], _, _ + 1, h => by
    have h : _ = [] := h
    rw [h]
    simp [DvA]
  | _ :: _, _, n + 1, ⟨v, vs, e, h, r⟩ => ⟨v, vs.take n, by rw [e]; rfl, h, DvA.take n r⟩
theorem DvA.drop : ∀ {ds : List D} {xs : List V} (n : Nat), DvA K H ds xs → DvA K H (ds.drop n) (xs.drop n)
  | _, _, 0, h => h
  | [], _, _ + 1, h => by
    have h : _ = [] := h
    rw [h]
    simp [DvA]
  | _ :: _, _, n + 1, ⟨v, vs, e, h, r⟩ => by
    rw [e]
    exact DvA.drop n r
theorem DvA.set {d : D} {v : V} (g : Dv K H d v) : ∀ {ds : List D} {xs : List V} (i : Nat), DvA K H ds xs → DvA K H (ds.set i d) (xs.set i v)
  | [], _, _, h => by
    have h : _ = [] := h
    rw [h]
    simp [DvA]
  | _ :: _, _, 0, ⟨_, vs, e, _, r⟩ => ⟨v, vs, by rw [e]; rfl, g, r⟩
  | _ :: _, _, i + 1, ⟨u, vs, e, h, r⟩ => ⟨u, vs.set i v, by rw [e]; rfl, h, DvA.set g i r⟩
theorem DvA.ints : ∀ ns : List Int, DvA K H (ns.map D.int) (ns.map V.int)
  | [] => rfl
  | n :: ns => ⟨_, _, rfl, rfl, DvA.ints ns⟩
theorem DvA.cons {d : D} {v : V} {ds : List D} {xs : List V} (h : Dv K H d v) (r : DvA K H ds xs) : DvA K H (d :: ds) (v :: xs) := ⟨v, xs, rfl, h, r⟩

/-- a new object, or a change of one that is no tuple -/
theorem tl_upd {p : Addr} {o : HO} (h : ∀ xs, ¬ Rd H p (.tup xs)) : TupLe K H (upd H p o) := fun a xs q => by
  rcases q with q | q
  · refine .inl ?_
    have ne : a ≠ p := fun e => by
      subst e
      exact h xs q
    rcases q with q | ⟨u, q⟩
    · exact .inl (by rw [upd_ne ne]; exact q)
    · exact .inr ⟨u, by rw [upd_ne ne]; exact q⟩
  · exact .inr q
theorem tl_new {p : Addr} {o : HO} (n : H p = none) : TupLe K H (upd H p o) := tl_upd fun xs q => by
  rcases q with q | ⟨u, q⟩
  · rw [n] at q; cases q
  · rw [n] at q; cases q
theorem tl_lst {p : Addr} {o : HO} {ys : List V} (n : H p = some (.lst ys)) : TupLe K H (upd H p o) := tl_upd fun xs q => by
  rcases q with q | ⟨u, q⟩
  · rw [n] at q; cases q
  · rw [n] at q; cases q
theorem tl_dK {p : Addr} {o : HO} {ys : List (Key × V)} (n : H p = some (.dK ys)) : TupLe K H (upd H p o) := tl_upd fun xs q => by
  rcases q with q | ⟨u, q⟩
  · rw [n] at q; cases q
  · rw [n] at q; cases q
theorem tl_dT {p : Addr} {o : HO} {ys : List (List Key × V)} (n : H p = some (.dT ys)) : TupLe K H (upd H p o) := tl_upd fun xs q => by
  rcases q with q | ⟨u, q⟩
  · rw [n] at q; cases q
  · rw [n] at q; cases q

abbrev KvD {κ : Type} (K : PySem.W.Frag) (H : Hp) : List (κ × D) → List (κ × V) → Prop := Paired fun p q => p.1 = q.1 ∧ Dv K H p.2 q.2
/-- the store's word of a holds in H -/
def DOk (K : PySem.W.Frag) (H : Hp) (a : Addr) : DO → Prop
  | .lst ds => ∃ xs, H a = some (.lst xs) ∧ DvA K H ds xs
  | .fro ds => ∃ xs, SqL K H a xs ∧ DvA K H ds xs
  | .dK kvs => ∃ ks, H a = some (.dK ks) ∧ KvD K H kvs ks
  | .dT kvs => ∃ ks, H a = some (.dT ks) ∧ KvD K H kvs ks
def HS (K : PySem.W.Frag) (H : Hp) (S : DS) : Prop := ∀ a o, S a = some o → DOk K H a o
theorem KvD.mono {κ : Type} (t : TupLe K H H') {l : List (κ × D)} {m : List (κ × V)} (h : KvD K H l m) : KvD K H' l m := Paired.mapP h fun _ _ z => ⟨z.1, Dv.mono t z.2⟩
/-- a word about a stands where a's object and the tuples do -/
theorem DOk.stay {a : Addr} {o : DO} (t : TupLe K H H') (e : ∀ u, H a = some u → H' a = some u) (h : DOk K H a o) : DOk K H' a o := by
  cases o with
  | lst ds => obtain ⟨xs, h1, h2⟩ := h; exact ⟨xs, e _ h1, DvA.mono t h2⟩
  | fro ds =>
    obtain ⟨xs, h1, h2⟩ := h
    refine ⟨xs, ?_, DvA.mono t h2⟩
    rcases h1 with (h1 | ⟨u, h1⟩) | h1
    · exact .inl (.inl (e _ h1))
    · exact .inl (.inr ⟨u, e _ h1⟩)
    · exact .inr h1
  | dK kvs => obtain ⟨xs, h1, h2⟩ := h; exact ⟨xs, e _ h1, KvD.mono t h2⟩
  | dT kvs => obtain ⟨xs, h1, h2⟩ := h; exact ⟨xs, e _ h1, KvD.mono t h2⟩
theorem HS.fresh {S : DS} {p : Addr} (h : HS K H S) (n : H p = none) : Fresh S p := fun o e => by
  have q := h p o e
  cases o with
  | lst ds => obtain ⟨xs, h1, _⟩ := q; rw [n] at h1; cases h1
  | fro ds => exact ⟨ds, rfl⟩
  | dK kvs => obtain ⟨xs, h1, _⟩ := q; rw [n] at h1; cases h1
  | dT kvs => obtain ⟨xs, h1, _⟩ := q; rw [n] at h1; cases h1
theorem HS.upd {S : DS} {p : Addr} {o : HO} {d : DO} (h : HS K H S) (t : TupLe K H (upd H p o)) (n : DOk K (upd H p o) p d) : HS K (upd H p o) (S.set p d) := fun a u e => by
  by_cases q : a = p
  · subst q
    rw [set_same] at e
    cases e
    exact n
  · rw [set_ne q] at e
    exact (h a u e).stay t fun w z => by rw [upd_ne q]; exact z
theorem HS.newT {S : DS} {p : Addr} {o : HO} (h : HS K H S) (n : H p = none) : HS K (L2.upd H p o) S := fun a u e => by
  refine (h a u e).stay (tl_new n) fun w z => ?_
  rw [upd_ne (fun q => by subst q; rw [n] at z; cases z)]
  exact z

/-! ### slots -/
abbrev DSt := List (Option D)
def RelS (K : PySem.W.Frag) (H : Hp) : DSt → L2.St → Prop
  | [], σ => σ = []
  | t :: τ, σ => ∃ v σ', σ = v :: σ' ∧ (∀ d, t = some d → ∃ u, v = some u ∧ Dv K H d u) ∧ RelS K H τ σ'
theorem RelS.mono (t : TupLe K H H') : ∀ {τ : DSt} {σ : L2.St}, RelS K H τ σ → RelS K H' τ σ
  | [], _, h => h
  | _ :: _, _, ⟨v, σ', e, h, r⟩ => ⟨v, σ', e, fun d q => let ⟨u, e1, e2⟩ := h d q; ⟨u, e1, Dv.mono t e2⟩, RelS.mono t r⟩
theorem RelS.length : ∀ {τ : DSt} {σ : L2.St}, RelS K H τ σ → τ.length = σ.length
  | [], _, h => by
    have h : _ = [] := h
    rw [h] <;> rfl
  | _ :: _, _, ⟨v, σ', e, h, r⟩ => by rw [e, List.length_cons, List.length_cons, RelS.length r]
theorem RelS.get : ∀ {τ : DSt} {σ : L2.St} {i : Nat} {d : D}, RelS K H τ σ → τ[i]? = some (some d) → ∃ v, σ[i]? = some (some v) ∧ Dv K H d v
  | [], _, _, _, _, e => by simp at e
  | _ :: _, _, 0, d, ⟨v, σ', e, h, r⟩, q => by
    have q := Option.some.inj q
    obtain ⟨u, e1, e2⟩ := h d q
    exact ⟨u, by rw [e, e1]; rfl, e2⟩
  | _ :: _, _, i + 1, d, ⟨v, σ', e, h, r⟩, q => by
    obtain ⟨u, e1, e2⟩ := RelS.get (i := i) (d := d) r (by simpa using q)
    exact ⟨u, by rw [e]; simpa using e1, e2⟩
theorem RelS.set {d : D} {v : V} (g : Dv K H d v) : ∀ {τ : DSt} {σ : L2.St} (i : Nat), RelS K H τ σ → RelS K H (τ.set i (some d)) (σ.set i (some v))
  | [], _, _, h => by
    have h : _ = [] := h
    rw [h]
    rfl
  | _ :: _, _, 0, ⟨_, σ', e, _, r⟩ => ⟨some v, σ', by rw [e]; rfl, fun d' q => ⟨v, rfl, by cases q; exact g⟩, r⟩
  | _ :: _, _, i + 1, ⟨u, σ', e, h, r⟩ => ⟨u, σ'.set i (some v), by rw [e]; rfl, h, RelS.set g i r⟩
theorem RelS.setN : ∀ {τ : DSt} {σ : L2.St} (i : Nat) (x : Option V), RelS K H τ σ → RelS K H (τ.set i none) (σ.set i x)
  | [], _, _, _, h => by
    have h : _ = [] := h
    rw [h]
    rfl
  | _ :: _, _, 0, x, ⟨_, σ', e, _, r⟩ => ⟨x, σ', by rw [e]; rfl, fun d' (q : none = some d') => (by cases q), r⟩
  | _ :: _, _, i + 1, x, ⟨u, σ', e, h, r⟩ => ⟨u, σ'.set i x, by rw [e]; rfl, h, RelS.setN i x r⟩
def dwipe (τ : DSt) : List Nat → DSt
  | [] => τ
  | i :: r => (dwipe τ r).set i none
def dstart (N : List Str) (ds : List D) : DSt := ds.map some ++ List.replicate (N.length - ds.length) none
theorem RelS.nones : ∀ n : Nat, RelS K H (List.replicate n none) (List.replicate n none)
  | 0 => rfl
  | n + 1 => ⟨none, _, rfl, fun d (q : none = some d) => (by cases q), RelS.nones n⟩
theorem RelS.start {N : List Str} : ∀ {ds : List D} {vs : List V} {n : Nat}, DvA K H ds vs → RelS K H (ds.map some ++ List.replicate n none) (vs.map some ++ List.replicate n none)
  | [], _, n, h => by
    have h : _ = [] := h
    rw [h]
    exact RelS.nones n
  | d :: ds, _, n, ⟨v, vs, e, h, r⟩ => by
    rw [e]
    exact ⟨some v, _, rfl, fun d' q => ⟨v, rfl, by cases q; exact h⟩, RelS.start (N := N) r⟩
theorem RelS.start' {N : List Str} {ds : List D} {vs : List V} (h : DvA K H ds vs) : RelS K H (dstart N ds) (L2.start N vs) := by
  unfold dstart L2.start
  rw [h.length]
  exact RelS.start (N := N) h
end
end DL

/-! DL2: the judgements over data -/
namespace DL
open PySem PySem.Spec PyProof.Rows L2

abbrev DK := D → DS → Prop
abbrev DTE := DSt → DS → DK → Prop
abbrev DTT := DSt → DS → (Bool → DS → Prop) → Prop
abbrev DTA := DSt → DS → (List D → DS → Prop) → Prop
structure DEnds where
  nx : DSt → DS → Prop
  rt : DK
  bk : DSt → DS → Prop := fun _ _ => False
  ct : DSt → DS → Prop := fun _ _ => False
abbrev DTS := DEnds → DSt → DS → Prop

/-- from H on: what is wanted of a value as data is enough for what is wanted of it -/
abbrev LeE (K : PySem.W.Frag) (H : Hp) (R : DK) (Q : VK) : Prop := ∀ v H' d S', TupLe K H H' → HS K H' S' → Dv K H' d v → R d S' → Q v H'
def lE (K : PySem.W.Frag) (t : DTE) : TE := fun σ H Q => ∃ τ S R, RelS K H τ σ ∧ HS K H S ∧ t τ S R ∧ LeE K H R Q
def lT (K : PySem.W.Frag) (t : DTT) : TT := fun σ H Q => ∃ τ S R, RelS K H τ σ ∧ HS K H S ∧ t τ S R ∧ ∀ b H' S', TupLe K H H' → HS K H' S' → R b S' → Q b H'
def lA (K : PySem.W.Frag) (t : DTA) : TA := fun σ H Q => ∃ τ S R, RelS K H τ σ ∧ HS K H S ∧ t τ S R ∧ ∀ vs H' ds S', TupLe K H H' → HS K H' S' → DvA K H' ds vs → R ds S' → Q vs H'
structure Le (K : PySem.W.Frag) (H : Hp) (E : DEnds) (F : Ends) : Prop where
  nx : ∀ σ' H' τ' S', TupLe K H H' → RelS K H' τ' σ' → HS K H' S' → E.nx τ' S' → F.nx σ' H'
  rt : LeE K H E.rt F.rt
  bk : ∀ σ' H' τ' S', TupLe K H H' → RelS K H' τ' σ' → HS K H' S' → E.bk τ' S' → F.bk σ' H'
  ct : ∀ σ' H' τ' S', TupLe K H H' → RelS K H' τ' σ' → HS K H' S' → E.ct τ' S' → F.ct σ' H'
def lS (K : PySem.W.Frag) (t : DTS) : TS := fun F σ H => ∃ τ S E, RelS K H τ σ ∧ HS K H S ∧ t E τ S ∧ Le K H E F
abbrev DE (X : Cx) (e : Expr) (t : DTE) : Prop := PE X e (lE X.K t)
abbrev DT (X : Cx) (e : Expr) (t : DTT) : Prop := PT X e (lT X.K t)
abbrev DW (X : Cx) (e : Expr) (t : DTT) : Prop := PW X e (lT X.K t)
abbrev DA (X : Cx) (es : List Expr) (t : DTA) : Prop := PA X es (lA X.K t)
abbrev DKw (X : Cx) (ks : List Keyword) (t : DTA) : Prop := PK X ks (lA X.K t)
abbrev DSm (X : Cx) (st : Stmt) (t : DTS) : Prop := PS X st (lS X.K t)
abbrev DSs (X : Cx) (st : List Stmt) (t : DTS) : Prop := PSs X st (lS X.K t)

section
variable {X : Cx} {e a b c : Expr} {es : List Expr} {st : Stmt} {sts : List Stmt} {K : PySem.W.Frag} {H H1 : Hp}
theorem imE {t t' : TE} (h : PE X e t) (i : ∀ σ H Q, t' σ H Q → t σ H Q) : PE X e t' := ⟨fun p s σ H Q I q => h.run p s σ H Q I (i σ H Q q)⟩
theorem imT {t t' : TT} (h : PT X e t) (i : ∀ σ H Q, t' σ H Q → t σ H Q) : PT X e t' := ⟨fun p s σ H Q I q => h.run p s σ H Q I (i σ H Q q)⟩
theorem imW {t t' : TT} (h : PW X e t) (i : ∀ σ H Q, t' σ H Q → t σ H Q) : PW X e t' := ⟨fun w p s σ H Q I q => h.run w p s σ H Q I (i σ H Q q)⟩
theorem imA {t t' : TA} (h : PA X es t) (i : ∀ σ H Q, t' σ H Q → t σ H Q) : PA X es t' := ⟨fun o p s σ H Q I q => h.run o p s σ H Q I (i σ H Q q)⟩
theorem imK {ks : List Keyword} {t t' : TA} (h : PK X ks t) (i : ∀ σ H Q, t' σ H Q → t σ H Q) : PK X ks t' := ⟨fun o p s σ H Q I q => h.run o p s σ H Q I (i σ H Q q)⟩
theorem imS {t t' : TS} (h : PS X st t) (i : ∀ D σ H, t' D σ H → t D σ H) : PS X st t' := ⟨fun p s σ H D I q => h.run p s σ H D I (i D σ H q)⟩
theorem imSs {t t' : TS} (h : PSs X sts t) (i : ∀ D σ H, t' D σ H → t D σ H) : PSs X sts t' := ⟨fun p s σ H D I q => h.run p s σ H D I (i D σ H q)⟩
theorem LeE.then {R : DK} {Q : VK} (h : LeE K H R Q) (t : TupLe K H H1) : LeE K H1 R Q := fun v H' d S' t' => h v H' d S' (t.trans t')
theorem Le.then {E : DEnds} {F : Ends} (h : Le K H E F) (t : TupLe K H H1) : Le K H1 E F :=
  ⟨fun σ H' τ S' t' => h.nx σ H' τ S' (t.trans t'), h.rt.then t, fun σ H' τ S' t' => h.bk σ H' τ S' (t.trans t'), fun σ H' τ S' t' => h.ct σ H' τ S' (t.trans t')⟩

/-! ### names, constants -/
def dVar (i : Nat) : DTE := fun τ S R => ∃ d, τ[i]? = some (some d) ∧ R d S
def dC (d : D) : DTE := fun _ S R => R d S
theorem de_of {i : Nat} (h : PE X e (tVar i)) : DE X e (dVar i) := imE h fun σ H Q ⟨τ, S, R, r, hs, ⟨d, e1, q⟩, le⟩ => by
  obtain ⟨v, e2, h2⟩ := r.get e1
  exact ⟨v, e2, le v H d S .refl hs h2 q⟩
/-- a value that stands for the data whatever the heap -/
def CD (K : PySem.W.Frag) (d : D) (v : V) : Prop := ∀ H, Dv K H d v
theorem de_con {d : D} {v : V} (h : PE X e (tC v)) (c : CD X.K d v) : DE X e (dC d) := imE h fun σ H Q ⟨τ, S, R, r, hs, q, le⟩ => le v H d S .refl hs (c H) q
theorem de_int {i j pos} : DE X (.Constant (.int i) j pos) (dC (.int i)) := de_con pe_int fun _ => rfl
theorem de_bl {i j pos} : DE X (.Constant (.bool i) j pos) (dC (.bl i)) := de_con pe_bl fun _ => rfl
theorem de_non {j pos} : DE X (.Constant .none j pos) (dC .non) := de_con pe_non fun _ => rfl
theorem de_str {x j pos} : DE X (.Constant (.str x) j pos) (dC (.str x)) := de_con pe_str fun _ => rfl
theorem de_glob {x : Str} {d : D} {v : V} {u : Value} {pos : Pos} (hg : Gl X x) (hm : X.mg x = some u) (r : RelV v u) (c : CD X.K d v) (hd : (x == ("__debug__" : Str)) = false := by decide) : DE X (.Name x pos) (dC d) := de_con (pe_glob hg hm r hd) c
theorem de_ty {x : Str} {n : String} {pos : Pos} (hg : Gl X x) (hm : X.mg x = none) (hv : bootBuiltins x = some (.type n)) (hn : x ≠ "__name__" := by decide) (hd : (x == ("__debug__" : Str)) = false := by decide) : DE X (.Name x pos) (dC (.ty n)) := de_con (pe_bltn (v := .ty n) hg hm hv rfl hn hd) fun _ => rfl

/-! ### two-place operations by values -/
abbrev DR2 := D → D → DS → DK → Prop
def l2 (K : PySem.W.Frag) (r : DR2) : R2 := fun x y H Q => ∃ dx dy S R, Dv K H dx x ∧ Dv K H dy y ∧ HS K H S ∧ r dx dy S R ∧ LeE K H R Q
def dOp (r : DR2) (ta tb : DTE) : DTE := fun τ S R => ta τ S fun x S1 => tb τ S1 fun y S2 => r x y S2 R
theorem op_lift {r : DR2} {ta tb : DTE} {σ : L2.St} {H : Hp} {Q : VK} (h : lE K (dOp r ta tb) σ H Q) : tOp (l2 K r) (lE K ta) (lE K tb) σ H Q := by
  obtain ⟨τ, S, R, r0, hs, q, le⟩ := h
  refine ⟨τ, S, _, r0, hs, q, fun v H1 d S1 t1 hs1 h1 q1 => ?_⟩
  refine ⟨τ, S1, _, r0.mono t1, hs1, q1, fun v2 H2 d2 S2 t2 hs2 h2 q2 => ?_⟩
  exact ⟨d, d2, S2, R, h1.mono t2, h2, hs2, q2, le.then (t1.trans t2)⟩
theorem de_op {op : Operator} {r : DR2} {ta tb : DTE} {pos : Pos} (ho : OpR X (binaryOp op) (l2 X.K r)) (ha : DE X a ta) (hb : DE X b tb) : DE X (.BinOp a op b pos) (dOp r ta tb) := imE (pe_op ho ha hb) fun _ _ _ => op_lift
theorem de_cmp {op : CmpOp} {r : DR2} {ta tb : DTE} {pos : Pos} (ho : OpR X (compareOp op) (l2 X.K r)) (ha : DE X a ta) (hb : DE X b tb) (hm : behindInMarks op b = false := by first | exact nobehind _ (by decide) (by decide) | rfl) : DE X (.Compare a [op] [b] pos) (dOp r ta tb) := imE (pe_cmpR ho ha hb hm) fun _ _ _ => op_lift
abbrev DR1 := D → DS → DK → Prop
def dUn (r : DR1) (ta : DTE) : DTE := fun τ S R => ta τ S fun x S1 => r x S1 R
def l1 (K : PySem.W.Frag) (r : DR1) : V → Hp → VK → Prop := fun x H Q => ∃ dx S R, Dv K H dx x ∧ HS K H S ∧ r dx S R ∧ LeE K H R Q
theorem de_un {op : UnaryOp} {r : DR1} {ta : DTE} {pos : Pos} (ho : UnR X (unaryOp op) (l1 X.K r)) (ha : DE X a ta) : DE X (.UnaryOp op a pos) (dUn r ta) := imE (pe_un ho ha) fun σ H Q ⟨τ, S, R, r0, hs, q, le⟩ =>
  ⟨τ, S, _, r0, hs, q, fun v H1 d S1 t1 hs1 h1 q1 => ⟨d, S1, R, h1, hs1, q1, le.then t1⟩⟩

/-! ### truth, and, or, not -/
/-- the value is True or False -/
def dB (t : DTE) : DTT := fun τ S R => t τ S fun x S1 => ∃ c, x = .bl c ∧ R c S1
theorem dt_val {t : DTE} (h : DE X e t) (he : ∀ whole, isTrue e X.env whole = (do let v ← whole; standAt e.pos; holding [v] (truthy v)) := by intro _; rfl) : DT X e (dB t) := imT (pt_val h he) fun σ H Q ⟨τ, S, R, r, hs, q, le⟩ =>
  ⟨τ, S, _, r, hs, q, fun v H1 d S1 t1 hs1 h1 ⟨c, e1, q1⟩ => by subst e1; exact ⟨c, h1, le c H1 S1 t1 hs1 q1⟩⟩
theorem dt_cmp {op : CmpOp} {r : DR2} {ta tb : DTE} {pos : Pos} (ho : OpR X (compareOp op) (l2 X.K r)) (ha : DE X a ta) (hb : DE X b tb) (hm : behindInMarks op b = false := by first | exact nobehind _ (by decide) (by decide) | rfl) : DT X (.Compare a [op] [b] pos) (dB (dOp r ta tb)) := imT (pt_cmpR ho ha hb hm) fun σ H Q ⟨τ, S, R, r, hs, q, le⟩ => by
  refine op_lift (K := X.K) ⟨τ, S, _, r, hs, q, fun v H1 d S1 t1 hs1 h1 ⟨c, e1, q1⟩ => ?_⟩
  subst e1
  exact ⟨c, h1, le c H1 S1 t1 hs1 q1⟩
def dAndT (t u : DTT) : DTT := fun τ S R => t τ S fun c S1 => if c = true then u τ S1 R else R false S1
def dOrT (t u : DTT) : DTT := fun τ S R => t τ S fun c S1 => if c = true then R true S1 else u τ S1 R
def dNotT (t : DTT) : DTT := fun τ S R => t τ S fun c S1 => R (!c) S1
variable {ta tb tc : DTE} {tA tB : DTT} {rest : List Expr} {pos : Pos}
theorem dw_and1 (ha : DT X a tA) : DW X (.BoolOp .And [a] pos) tA := pw_and1 ha
theorem dw_or1 (ha : DT X a tA) : DW X (.BoolOp .Or [a] pos) tA := pw_or1 ha
theorem dw_and (ha : DT X a tA) (hb : DW X (.BoolOp .And (b :: rest) pos) tB) : DW X (.BoolOp .And (a :: b :: rest) pos) (dAndT tA tB) := imW (pw_and ha hb) fun σ H Q ⟨τ, S, R, r, hs, q, le⟩ =>
  ⟨τ, S, _, r, hs, q, fun c H1 S1 t1 hs1 q1 => by
    cases c with
    | true => rw [if_pos rfl] at q1 ⊢; exact ⟨τ, S1, R, r.mono t1, hs1, q1, fun b' H2 S2 t2 hs2 q2 => le b' H2 S2 (t1.trans t2) hs2 q2⟩
    | false => rw [if_neg Bool.false_ne_true] at q1 ⊢; exact le false H1 S1 t1 hs1 q1⟩
theorem dw_or (ha : DT X a tA) (hb : DW X (.BoolOp .Or (b :: rest) pos) tB) : DW X (.BoolOp .Or (a :: b :: rest) pos) (dOrT tA tB) := imW (pw_or ha hb) fun σ H Q ⟨τ, S, R, r, hs, q, le⟩ =>
  ⟨τ, S, _, r, hs, q, fun c H1 S1 t1 hs1 q1 => by
    cases c with
    | false => rw [if_neg Bool.false_ne_true] at q1 ⊢; exact ⟨τ, S1, R, r.mono t1, hs1, q1, fun b' H2 S2 t2 hs2 q2 => le b' H2 S2 (t1.trans t2) hs2 q2⟩
    | true => rw [if_pos rfl] at q1 ⊢; exact le true H1 S1 t1 hs1 q1⟩
theorem dt_w (h : DW X e tA) : DT X e tA := PW.pt h
theorem dt_not (ha : DT X a tA) : DT X (.UnaryOp .Not a pos) (dNotT tA) := imT (pt_not ha) fun σ H Q ⟨τ, S, R, r, hs, q, le⟩ =>
  ⟨τ, S, _, r, hs, q, fun c H1 S1 t1 hs1 q1 => le (!c) H1 S1 t1 hs1 q1⟩
def dAndV (ta tb : DTE) : DTE := fun τ S R => ta τ S fun x S1 => ∃ c, x = .bl c ∧ if c = true then tb τ S1 R else R (.bl false) S1
def dOrV (ta tb : DTE) : DTE := fun τ S R => ta τ S fun x S1 => ∃ c, x = .bl c ∧ if c = true then R (.bl true) S1 else tb τ S1 R
def dNotV (ta : DTE) : DTE := fun τ S R => ta τ S fun x S1 => ∃ c, x = .bl c ∧ R (.bl (!c)) S1
theorem de_one {op} (h : DE X a ta) : DE X (.BoolOp op [a] pos) ta := pe_one h
theorem de_and (ha : DE X a ta) (hb : DE X (.BoolOp .And (b :: rest) pos) tb) : DE X (.BoolOp .And (a :: b :: rest) pos) (dAndV ta tb) := imE (pe_and ha hb) fun σ H Q ⟨τ, S, R, r, hs, q, le⟩ =>
  ⟨τ, S, _, r, hs, q, fun v H1 d S1 t1 hs1 h1 ⟨c, e1, q1⟩ => by
    subst e1
    refine ⟨c, h1, ?_⟩
    cases c with
    | true => rw [if_pos rfl] at q1 ⊢; exact ⟨τ, S1, R, r.mono t1, hs1, q1, le.then t1⟩
    | false => rw [if_neg Bool.false_ne_true] at q1 ⊢; exact le _ H1 (.bl false) S1 t1 hs1 rfl q1⟩
theorem de_or (ha : DE X a ta) (hb : DE X (.BoolOp .Or (b :: rest) pos) tb) : DE X (.BoolOp .Or (a :: b :: rest) pos) (dOrV ta tb) := imE (pe_or ha hb) fun σ H Q ⟨τ, S, R, r, hs, q, le⟩ =>
  ⟨τ, S, _, r, hs, q, fun v H1 d S1 t1 hs1 h1 ⟨c, e1, q1⟩ => by
    subst e1
    refine ⟨c, h1, ?_⟩
    cases c with
    | false => rw [if_neg Bool.false_ne_true] at q1 ⊢; exact ⟨τ, S1, R, r.mono t1, hs1, q1, le.then t1⟩
    | true => rw [if_pos rfl] at q1 ⊢; exact le _ H1 (.bl true) S1 t1 hs1 rfl q1⟩
theorem de_not (ha : DE X a ta) : DE X (.UnaryOp .Not a pos) (dNotV ta) := imE (pe_not ha) fun σ H Q ⟨τ, S, R, r, hs, q, le⟩ =>
  ⟨τ, S, _, r, hs, q, fun v H1 d S1 t1 hs1 h1 ⟨c, e1, q1⟩ => by subst e1; exact ⟨c, h1, le _ H1 (.bl (!c)) S1 t1 hs1 rfl q1⟩⟩
def dIf (t : DTT) (ta tb : DTE) : DTE := fun τ S R => t τ S fun c S1 => if c = true then ta τ S1 R else tb τ S1 R
theorem de_if (hc : DT X c tA) (ha : DE X a ta) (hb : DE X b tb) : DE X (.IfExp c a b pos) (dIf tA ta tb) := imE (pe_ifExp hc ha hb) fun σ H Q ⟨τ, S, R, r, hs, q, le⟩ =>
  ⟨τ, S, _, r, hs, q, fun k H1 S1 t1 hs1 q1 => by
    cases k with
    | true => rw [if_pos rfl] at q1 ⊢; exact ⟨τ, S1, R, r.mono t1, hs1, q1, le.then t1⟩
    | false => rw [if_neg Bool.false_ne_true] at q1 ⊢; exact ⟨τ, S1, R, r.mono t1, hs1, q1, le.then t1⟩⟩
/-- a < b < c -/
def dChain (r r' : DR2) (ta tb tc : DTE) : DTE := fun τ S R => ta τ S fun x S1 => tb τ S1 fun y S2 => r x y S2 fun z S3 => ∃ k, z = .bl k ∧ if k = true then tc τ S3 fun w S4 => r' y w S4 R else R (.bl false) S3
theorem chain_lift {r r' : DR2} {σ : L2.St} {H : Hp} {Q : VK} (h : lE K (dChain r r' ta tb tc) σ H Q) : tChain (l2 K r) (l2 K r') (lE K ta) (lE K tb) (lE K tc) σ H Q := by
  obtain ⟨τ, S, R, r0, hs, q, le⟩ := h
  refine ⟨τ, S, _, r0, hs, q, fun v H1 d S1 t1 hs1 h1 q1 => ?_⟩
  refine ⟨τ, S1, _, r0.mono t1, hs1, q1, fun v2 H2 d2 S2 t2 hs2 h2 q2 => ?_⟩
  refine ⟨d, d2, S2, _, h1.mono t2, h2, hs2, q2, fun v3 H3 d3 S3 t3 hs3 h3 ⟨k, e3, q3⟩ => ?_⟩
  subst e3
  refine ⟨k, h3, ?_⟩
  cases k with
  | true =>
    rw [if_pos rfl] at q3 ⊢
    refine ⟨τ, S3, _, ((r0.mono t1).mono t2).mono t3, hs3, q3, fun v4 H4 d4 S4 t4 hs4 h4 q4 => ?_⟩
    exact ⟨d2, d4, S4, R, (h2.mono t3).mono t4, h4, hs4, q4, le.then (((t1.trans t2).trans t3).trans t4)⟩
  | false => rw [if_neg Bool.false_ne_true] at q3 ⊢; exact le _ H3 (.bl false) S3 ((t1.trans t2).trans t3) hs3 rfl q3
theorem de_chain {op op' : CmpOp} {r r' : DR2} (ho : OpR X (compareOp op) (l2 X.K r)) (ho' : OpR X (compareOp op') (l2 X.K r')) (ha : DE X a ta) (hb : DE X b tb) (hc : DE X c tc) (hm : lastMarks [op, op'] [b, c] = false := by rfl) : DE X (.Compare a [op, op'] [b, c] pos) (dChain r r' ta tb tc) := imE (pe_chain ho ho' ha hb hc (hm := hm)) fun _ _ _ => chain_lift

/-! ### arguments, displays -/
def dNil : DTA := fun _ S R => R [] S
def dCons (ta : DTE) (tr : DTA) : DTA := fun τ S R => ta τ S fun x S1 => tr τ S1 fun xs S2 => R (x :: xs) S2
theorem cons_lift {tr : DTA} {σ : L2.St} {H : Hp} {Q : List V → Hp → Prop} (h : lA K (dCons ta tr) σ H Q) : tCons (lE K ta) (lA K tr) σ H Q := by
  obtain ⟨τ, S, R, r0, hs, q, le⟩ := h
  exact ⟨τ, S, _, r0, hs, q, fun v H1 d S1 t1 hs1 h1 q1 => ⟨τ, S1, _, r0.mono t1, hs1, q1, fun vs H2 ds S2 t2 hs2 h2 q2 => le _ H2 (d :: ds) S2 (t1.trans t2) hs2 ⟨v, vs, rfl, h1.mono t2, h2⟩ q2⟩⟩
theorem da_nil : DA X [] dNil := imA pa_nil fun σ H Q ⟨τ, S, R, r0, hs, q, le⟩ => le [] H [] S .refl hs rfl q
theorem da_cons {tr : DTA} (ha : DE X e ta) (hr : DA X es tr) (hs : starEach (e :: es) X.env = (false, eval e X.env) :: starEach es X.env := by rfl) : DA X (e :: es) (dCons ta tr) := imA (pa_cons ha hr hs) fun _ _ _ => cons_lift
theorem dk_nil : DKw X [] dNil := imK pk_nil fun σ H Q ⟨τ, S, R, r0, hs, q, le⟩ => le [] H [] S .refl hs rfl q
theorem dk_cons {tr : DTA} {nm : Option Str} {kws : List Keyword} {kp : Pos} (ha : DE X e ta) (hr : DKw X kws tr) : DKw X (⟨nm, e, kp⟩ :: kws) (dCons ta tr) := imK (pk_cons ha hr) fun _ _ _ => cons_lift
/-- a written tuple, a written list -/
def dTup (t : DTA) : DTE := fun τ S R => t τ S fun ds S1 => ds.length ≤ sizeLine ∧ R (.tup ds) S1
def dLst (t : DTA) : DTE := fun τ S R => t τ S fun ds S1 => ds.length ≤ sizeLine ∧ ∀ p, Fresh S1 p → R (.ref p) (S1.set p (.lst ds))
theorem new_tup {R : DK} {Q : VK} {S : DS} {ds : List D} {xs : List V} (le : LeE K H R Q) (hs : HS K H S) (h : DvA K H ds xs) (q : R (.tup ds) S) : ∀ p, H p = none → Q (.ref p) (upd H p (.tup xs)) := fun p n =>
  le _ _ (.tup ds) S (tl_new n) (hs.newT n) ⟨p, xs, rfl, SqT.of upd_same, h.mono (tl_new n)⟩ q
theorem new_lst {R : DK} {Q : VK} {S : DS} {ds : List D} {xs : List V} (le : LeE K H R Q) (hs : HS K H S) (h : DvA K H ds xs) (q : ∀ p, Fresh S p → R (.ref p) (S.set p (.lst ds))) : ∀ p, H p = none → Q (.ref p) (upd H p (.lst xs)) := fun p n =>
  le _ _ (.ref p) _ (tl_new n) (hs.upd (d := .lst ds) (tl_new n) ⟨xs, upd_same, h.mono (tl_new n)⟩) rfl (q p (hs.fresh n))
theorem de_tup {t : DTA} {x1} (h : DA X es t) : DE X (.Tuple es x1 pos) (dTup t) := imE (pe_tup h) fun σ H Q ⟨τ, S, R, r0, hs, q, le⟩ =>
  ⟨τ, S, _, r0, hs, q, fun vs H1 ds S1 t1 hs1 h1 ⟨z, q1⟩ => ⟨by rw [← h1.length]; exact z, new_tup (le.then t1) hs1 h1 q1⟩⟩
theorem de_lst {t : DTA} (h : DA X es t) : DE X (.List es pos) (dLst t) := imE (pe_lst h) fun σ H Q ⟨τ, S, R, r0, hs, q, le⟩ =>
  ⟨τ, S, _, r0, hs, q, fun vs H1 ds S1 t1 hs1 h1 ⟨z, q1⟩ => ⟨by rw [← h1.length]; exact z, new_lst (le.then t1) hs1 h1 q1⟩⟩

/-! ### statements -/
def dNext : DTS := fun E τ S => E.nx τ S
def dSeq (t u : DTS) : DTS := fun E τ S => t { E with nx := u E } τ S
theorem ds_nil : DSs X [] dNext := imSs pss_nil fun F σ H ⟨τ, S, E, r, hs, q, le⟩ => le.nx σ H τ S .refl r hs q
theorem ds_cons {t u : DTS} (h1 : DSm X st t) (h2 : DSs X sts u) : DSs X (st :: sts) (dSeq t u) := imSs (pss_cons h1 h2) fun F σ H ⟨τ, S, E, r, hs, q, le⟩ =>
  ⟨τ, S, { E with nx := u E }, r, hs, q, ⟨fun σ' H' τ' S' t' r' hs' q' => ⟨τ', S', E, r', hs', q', le.then t'⟩, le.rt, le.bk, le.ct⟩⟩
theorem ds_one {t : DTS} (h1 : DSm X st t) : DSs X [st] t := pss_one h1
theorem ds_pass : DSm X (.Pass pos) dNext := imS ps_pass fun F σ H ⟨τ, S, E, r, hs, q, le⟩ => le.nx σ H τ S .refl r hs q
def dBreak : DTS := fun E τ S => E.bk τ S
def dCont : DTS := fun E τ S => E.ct τ S
theorem ds_break : DSm X (.Break pos) dBreak := imS ps_break fun F σ H ⟨τ, S, E, r, hs, q, le⟩ => le.bk σ H τ S .refl r hs q
theorem ds_continue : DSm X (.Continue pos) dCont := imS ps_continue fun F σ H ⟨τ, S, E, r, hs, q, le⟩ => le.ct σ H τ S .refl r hs q
def dDrop (t : DTE) : DTS := fun E τ S => t τ S fun _ S1 => E.nx τ S1
theorem ds_expr (he : DE X e ta) (hw : swapsWith e none pos.line X.env = pure false := by rfl) : DSm X (.Expr e pos) (dDrop ta) := imS (ps_expr he hw) fun F σ H ⟨τ, S, E, r, hs, q, le⟩ =>
  ⟨τ, S, _, r, hs, q, fun v H1 d S1 t1 hs1 h1 q1 => le.nx σ H1 τ S1 t1 (r.mono t1) hs1 q1⟩
def dRet (t : DTE) : DTS := fun E τ S => t τ S E.rt
theorem ds_ret (he : DE X e ta) : DSm X (.Return (some e) pos) (dRet ta) := imS (ps_ret he) fun F σ H ⟨τ, S, E, r, hs, q, le⟩ => ⟨τ, S, _, r, hs, q, le.rt⟩
def dIfS (t : DTT) (u v : DTS) : DTS := fun E τ S => t τ S fun c S1 => if c = true then u E τ S1 else v E τ S1
theorem ds_if {u v : DTS} {s1 s2 : List Stmt} (hc : DT X c tA) (ha : DSs X s1 u) (hb : DSs X s2 v) : DSm X (.If c s1 s2 pos) (dIfS tA u v) := imS (ps_if hc ha hb) fun F σ H ⟨τ, S, E, r, hs, q, le⟩ =>
  ⟨τ, S, _, r, hs, q, fun k H1 S1 t1 hs1 q1 => by
    cases k with
    | true => rw [if_pos rfl] at q1 ⊢; exact ⟨τ, S1, E, r.mono t1, hs1, q1, le.then t1⟩
    | false => rw [if_neg Bool.false_ne_true] at q1 ⊢; exact ⟨τ, S1, E, r.mono t1, hs1, q1, le.then t1⟩⟩
def dSet (i : Nat) (t : DTE) : DTS := fun E τ S => t τ S fun d S1 => E.nx (τ.set i (some d)) S1
theorem ds_set {i : Nat} {x : Str} {py : Pos} (hN : X.N.Nodup) (hi : X.N[i]? = some x) (hx : Loc X.env.scope x) (he : DE X e ta) (hw : swapsWith e (some (.Name x py)) pos.line X.env = pure false := by rfl) (hf : X.fn x = true ∨ X.env.scope.names.lookup x = some .local := by first | exact .inl rfl | exact .inr rfl | assumption) :
    DSm X (.Assign [.Name x py] e pos) (dSet i ta) := imS (ps_set hN hi hx he hw hf) fun F σ H ⟨τ, S, E, r, hs, q, le⟩ =>
  ⟨τ, S, _, r, hs, q, fun v H1 d S1 t1 hs1 h1 q1 => le.nx _ H1 _ S1 t1 ((r.mono t1).set h1 i) hs1 q1⟩

/-! ### targets -/
abbrev DTG := D → DSt → DS → (DSt → DS → Prop) → Prop
abbrev DTGs := List D → DSt → DS → (DSt → DS → Prop) → Prop
def lG (K : PySem.W.Frag) (g : DTG) : TG := fun v σ H Q => ∃ d τ S R, Dv K H d v ∧ RelS K H τ σ ∧ HS K H S ∧ g d τ S R ∧ ∀ σ' H' τ' S', TupLe K H H' → RelS K H' τ' σ' → HS K H' S' → R τ' S' → Q σ' H'
def lGs (K : PySem.W.Frag) (g : DTGs) : TGs := fun vs σ H Q => ∃ ds τ S R, DvA K H ds vs ∧ RelS K H τ σ ∧ HS K H S ∧ g ds τ S R ∧ ∀ σ' H' τ' S', TupLe K H H' → RelS K H' τ' σ' → HS K H' S' → R τ' S' → Q σ' H'
abbrev DG (X : Cx) (e : Expr) (g : DTG) : Prop := PG X e (lG X.K g)
abbrev DGs (X : Cx) (es : List Expr) (g : DTGs) : Prop := PGs X es (lGs X.K g)
theorem imG {t t' : TG} (h : PG X e t) (i : ∀ v σ H Q, t' v σ H Q → t v σ H Q) : PG X e t' := ⟨fun p s σ H v u Q I r q => h.run p s σ H v u Q I r (i v σ H Q q)⟩
theorem imGs {t t' : TGs} (h : PGs X es t) (i : ∀ v σ H Q, t' v σ H Q → t v σ H Q) : PGs X es t' := ⟨fun p s σ H v u Q I r q => h.run p s σ H v u Q I r (i v σ H Q q)⟩
def dgName (i : Nat) : DTG := fun d τ S R => R (τ.set i (some d)) S
theorem dg_name {i : Nat} {x : Str} (hN : X.N.Nodup) (hi : X.N[i]? = some x) (hx : Loc X.env.scope x) (hf : X.fn x = true ∨ X.env.scope.names.lookup x = some .local := by first | exact .inl rfl | exact .inr rfl | assumption) : DG X (.Name x pos) (dgName i) :=
  imG (pg_name hN hi hx hf) fun v σ H Q ⟨d, τ, S, R, h, r, hs, q, le⟩ => le _ H _ S .refl (r.set h i) hs q
def dgNil : DTGs := fun ds τ S R => ds = [] ∧ R τ S
def dgCons (g : DTG) (u : DTGs) : DTGs := fun ds τ S R => ∃ d r, ds = d :: r ∧ g d τ S fun τ' S' => u r τ' S' R
theorem dgs_nil : DGs X [] dgNil := imGs pgs_nil fun v σ H Q ⟨d, τ, S, R, h, r, hs, ⟨e1, q⟩, le⟩ => by
  subst e1
  exact ⟨h, le _ H _ S .refl r hs q⟩
theorem dgs_cons {g : DTG} {u : DTGs} (h1 : DG X e g) (h2 : DGs X es u) (hw : (assignEach (e :: es) X.env).map (·.2) = assign e X.env :: (assignEach es X.env).map (·.2) := by rfl) : DGs X (e :: es) (dgCons g u) :=
  imGs (pgs_cons h1 h2 hw) fun vs σ H Q ⟨ds, τ, S, R, h, r, hs, ⟨d, dr, e1, q⟩, le⟩ => by
    subst e1
    obtain ⟨v, vr, e2, h1, h2⟩ := h
    exact ⟨v, vr, e2, d, τ, S, _, h1, r, hs, q, fun σ' H' τ' S' t' r' hs' q' => ⟨dr, τ', S', R, h2.mono t', r', hs', q', fun σ2 H2 τ2 S2 t2 r2 hs2 q2 => le σ2 H2 τ2 S2 (t'.trans t2) r2 hs2 q2⟩⟩
def dgTup (n : Nat) (u : DTGs) : DTG := fun d τ S R => ∃ ds, d = .tup ds ∧ ds.length = n ∧ u ds τ S R
theorem dg_tup {u : DTGs} {n k : Nat} (hc : X.calm = true) (h : DGs X es u) (hn : (assignEach es X.env).length = n := by rfl) (hst : (assignEach es X.env).findIdx? (·.1) = none := by rfl) : DG X (.Tuple es k pos) (dgTup n u) :=
  imG (pg_tup hc h hn hst) fun v σ H Q ⟨d, τ, S, R, h, r, hs, ⟨ds, e1, hl, q⟩, le⟩ => by
    subst e1
    obtain ⟨a, xs, e2, hq, hx⟩ := h
    exact ⟨a, xs, e2, hq, by rw [← hx.length]; exact hl, ds, τ, S, R, hx, r, hs, q, le⟩
def dAsg (t : DTE) (g : DTG) : DTS := fun E τ S => t τ S fun d S1 => g d τ S1 E.nx
theorem ds_asg {tg : Expr} {g : DTG} (he : DE X e ta) (hg : DG X tg g) (hw : swapsWithSole [tg] e pos.line X.env = pure false := by rfl) (hv : swappedStores [tg] e X.env = pure none := by rfl) (h1 : (assignEach [tg] X.env).map (·.2) = [assign tg X.env] := by rfl) : DSm X (.Assign [tg] e pos) (dAsg ta g) :=
  imS (ps_asg he hg hw hv h1) fun F σ H ⟨τ, S, E, r, hs, q, le⟩ =>
    ⟨τ, S, _, r, hs, q, fun v H1 d S1 t1 hs1 h1 q1 => ⟨d, τ, S1, _, h1, r.mono t1, hs1, q1, fun σ2 H2 τ2 S2 t2 r2 hs2 q2 => le.nx σ2 H2 τ2 S2 (t1.trans t2) r2 hs2 q2⟩⟩
/-- a, b = x, y with plain names -/
def dPar (i j : Nat) (t : DTA) : DTS := fun E τ S => t τ S fun ds S1 => ∃ d d', ds = [d, d'] ∧ E.nx ((τ.set i (some d)).set j (some d')) S1
theorem ds_par {i j : Nat} {x y : Str} {t : DTA} {px py pt : Pos} {kt k2 pt2} (hc : X.calm = true) (hN : X.N.Nodup) (hi : X.N[i]? = some x) (hj : X.N[j]? = some y) (hij : i ≠ j) (hx : X.env.scope.names.lookup x = some .local) (hy : X.env.scope.names.lookup y = some .local) (ha : DA X [a, b] t)
    (hw : swappedStores [.Tuple [.Name x px, .Name y py] kt pt] (.Tuple [a, b] k2 pt2) X.env = pure (some [x, y])) (hs : swapsWithSole [.Tuple [.Name x px, .Name y py] kt pt] (.Tuple [a, b] k2 pt2) pos.line X.env = pure false := by rfl) :
    DSm X (.Assign [.Tuple [.Name x px, .Name y py] kt pt] (.Tuple [a, b] k2 pt2) pos) (dPar i j t) := imS (ps_par hc hN hi hj hij hx hy ha hw hs) fun F σ H ⟨τ, S, E, r, hs, q, le⟩ =>
  ⟨τ, S, _, r, hs, q, fun vs H1 ds S1 t1 hs1 h1 ⟨d, d', e1, q1⟩ => by
    subst e1
    obtain ⟨v, vr, e2, g1, w, wr, e3, g2, e4⟩ := h1
    subst e3
    have e4 : wr = [] := e4
    subst e4
    exact ⟨v, w, e2, le.nx _ H1 _ S1 t1 (((r.mono t1).set g1 i).set g2 j) hs1 q1⟩⟩
end

/-! ### while -/
section
variable {X : Cx} {c : Expr} {body : List Stmt} {tc : DTT} {tb : DTS} {pos : Pos}
def dWhile (c : DTT) (tb : DTS) : DTS := fun E τ S => ∃ W : Nat → DSt → DS → Prop, (∃ m, W m τ S) ∧ ∀ m τ S, W m τ S →
  c τ S fun b S1 => if b = true then ∃ N : DSt → DS → Prop, (∀ τ' S', N τ' S' → ∃ m', m' < m ∧ W m' τ' S') ∧ tb { E with nx := N, ct := N, bk := E.nx } τ S1 else E.nx τ S1
theorem ds_while (hp : PassesOwn (model X.prog X.w) X.A X.env X.xe) (hc : DT X c tc) (hb : DSs X body tb) : DSm X (.While c body [] pos) (dWhile tc tb) := imS (ps_while hp hc hb) fun F σ H ⟨τ, S, E, r, hs, ⟨W, ⟨m0, w0⟩, turn⟩, le⟩ => by
  refine ⟨fun m σ' H' => ∃ τ' S', TupLe X.K H H' ∧ RelS X.K H' τ' σ' ∧ HS X.K H' S' ∧ W m τ' S', ⟨m0, τ, S, .refl, r, hs, w0⟩, ?_⟩
  rintro m σ1 H1 ⟨τ1, S1, t1, r1, hs1, w1⟩
  refine ⟨τ1, S1, _, r1, hs1, turn m τ1 S1 w1, fun b H2 S2 t2 hs2 q2 => ?_⟩
  cases b with
  | true =>
    rw [if_pos rfl] at q2 ⊢
    obtain ⟨N, hN, q2⟩ := q2
    refine ⟨fun σ' H' => ∃ τ' S', TupLe X.K H H' ∧ RelS X.K H' τ' σ' ∧ HS X.K H' S' ∧ N τ' S', fun σ' H' ⟨τ', S', t', r', hs', n'⟩ => ?_, τ1, S2, _, r1.mono t2, hs2, q2, ?_⟩
    · obtain ⟨m', hm, w'⟩ := hN τ' S' n'
      exact ⟨m', hm, τ', S', t', r', hs', w'⟩
    · exact ⟨fun σ' H' τ' S' t' r' hs' q' => ⟨τ', S', (t1.trans t2).trans t', r', hs', q'⟩, (le.then (t1.trans t2)).rt, (le.then (t1.trans t2)).nx, fun σ' H' τ' S' t' r' hs' q' => ⟨τ', S', (t1.trans t2).trans t', r', hs', q'⟩⟩
  | false =>
    rw [if_neg Bool.false_ne_true] at q2 ⊢
    exact le.nx σ1 H2 τ1 S2 (t1.trans t2) (r1.mono t2) hs2 q2
end
end DL

/-! DL3: what is walked, for, comprehensions -/
namespace DL
open PySem PySem.Spec PyProof.Rows L2

/-- a list that may be read -/
def rdL (S : DS) (a : Addr) (ds : List D) : Prop := S a = some (.lst ds) ∨ S a = some (.fro ds)
theorem rdL.inj {S : DS} {a : Addr} {ds es : List D} (h : rdL S a ds) (g : rdL S a es) : ds = es := by
  rcases h with h | h <;> rcases g with g | g <;> rw [h] at g <;> cases g <;> rfl
theorem HS.rd {K : PySem.W.Frag} {H : Hp} {S : DS} {a : Addr} {ds : List D} (hs : HS K H S) (h : rdL S a ds) : ∃ xs, SqL K H a xs ∧ DvA K H ds xs := by
  rcases h with h | h
  · obtain ⟨xs, h1, h2⟩ := hs a _ h
    exact ⟨xs, SqL.of h1, h2⟩
  · exact hs a _ h

/-- J walks ds while st stands, from H0 on -/
structure WalkF (K : PySem.W.Frag) (H0 : Hp) (J : It) (ds : List D) (st : DS → Prop) : Prop where
  goes : ∀ i H S, TupLe K H0 H → i < ds.length → HS K H S → st S → J.go i H
  stops : ∀ H S, TupLe K H0 H → HS K H S → st S → J.stop ds.length H
  yields : ∀ i H x H' S, TupLe K H0 H → i < ds.length → HS K H S → st S → J.yld i H x H' → ∃ d, ds[i]? = some d ∧ TupLe K H H' ∧ HS K H' S ∧ Dv K H' d x
theorem wf_of {K : PySem.W.Frag} {H0 : Hp} {J : It} {n : Nat} {G : Hp → Prop} {Y : Nat → Hp → V → Hp → Prop} (w : Walk J n G Y) {ds : List D} {st : DS → Prop} (hn : ds.length = n) (hG : ∀ H S, TupLe K H0 H → HS K H S → st S → G H)
    (hY : ∀ i H x H' S, TupLe K H0 H → i < ds.length → HS K H S → st S → Y i H x H' → ∃ d, ds[i]? = some d ∧ TupLe K H H' ∧ HS K H' S ∧ Dv K H' d x) : WalkF K H0 J ds st where
  goes := fun i H S t hi hs h => w.goes i H (by omega) (hG H S t hs h)
  stops := fun H S t hs h => by rw [hn]; exact w.stops H (hG H S t hs h)
  yields := fun i H x H' S t hi hs h y => hY i H x H' S t hi hs h (w.yields i H x H' (by omega) (hG H S t hs h) y)
abbrev ZI := List D → (DS → Prop) → DS → Prop
abbrev DTI := DSt → DS → ZI → Prop
def lI (K : PySem.W.Frag) (t : DTI) : TI := fun σ H R => ∃ τ S Z, RelS K H τ σ ∧ HS K H S ∧ t τ S Z ∧ ∀ J H' ds st S', TupLe K H H' → HS K H' S' → WalkF K H' J ds st → Z ds st S' → R J H'
abbrev DI (X : Cx) (tg iter : Expr) (t : DTI) : Prop := PI X tg iter (lI X.K t)
section
variable {X : Cx} {tg iter e : Expr} {K : PySem.W.Frag} {te : DTE}
theorem imI {t t' : TI} (h : PI X tg iter t) (i : ∀ σ H R, t' σ H R → t σ H R) : PI X tg iter t' := ⟨fun p s σ H R I q => h.run p s σ H R I (i σ H R q)⟩
theorem orI {t t' : DTI} (h : DI X tg iter t) (h' : DI X tg iter t') : DI X tg iter (fun τ S Z => t τ S Z ∨ t' τ S Z) := ⟨fun p s σ H R I ⟨τ, S, Z, r, hs, q, le⟩ => q.elim (fun q => h.run p s σ H R I ⟨τ, S, Z, r, hs, q, le⟩) fun q => h'.run p s σ H R I ⟨τ, S, Z, r, hs, q, le⟩⟩
theorem wf_list {H0 : Hp} {a : Addr} {xs : List V} {ds : List D} {S0 : DS} (hs0 : HS K H0 S0) (h0 : rdL S0 a ds) : WalkF K H0 (Itl K a) ds (fun S => rdL S a ds) where
  goes := fun i H S _ hi hs h => by
    obtain ⟨xs, h1, h2⟩ := hs.rd h
    exact ⟨xs, xs[i]'(by rw [← h2.length]; exact hi), h1, by simp [← h2.length, hi]⟩
  stops := fun H S _ hs h => by
    obtain ⟨xs, h1, h2⟩ := hs.rd h
    exact ⟨xs, h1, by rw [h2.length]; exact Nat.le_refl _⟩
  yields := fun i H x H' S _ hi hs h y => by
    obtain ⟨xs, h1, h2⟩ := hs.rd h
    obtain ⟨rfl, y⟩ := y
    obtain ⟨v, g1, g2⟩ := h2.get (i := i) (d := ds[i]) (by simp [hi])
    have e := (y xs h1).symm.trans g1
    cases e
    exact ⟨ds[i], by simp [hi], .refl, hs, g2⟩
theorem wf_tup {H0 : Hp} {a : Addr} {xs : List V} {ds : List D} (q : SqT K H0 a xs) (r : DvA K H0 ds xs) : WalkF K H0 (Itt K a) ds (fun _ => True) :=
  wf_of (walk_tup (xs := xs)) r.length (fun H S t _ _ => t a xs q) fun i H x H' S t hi hs _ ⟨e1, e2⟩ => by
    subst e1
    obtain ⟨v, g1, g2⟩ := r.get (i := i) (d := ds[i]) (by simp [hi])
    have e := e2.symm.trans g1
    cases e
    exact ⟨ds[i], by simp [hi], .refl, hs, g2.mono t⟩
/-- the signs of a text as texts -/
def signs (x : Str) : List D := x.cps.toList.map fun c => .str ⟨#[c]⟩
theorem wf_str {H0 : Hp} {x : Str} : WalkF K H0 (Its x) (signs x) (fun _ => True) :=
  wf_of walk_str (by simp [signs]) (fun _ _ _ _ _ => trivial) fun i H v H' S t hi hs _ ⟨e1, c, e2, e3⟩ => by
    subst e1
    refine ⟨.str ⟨#[c]⟩, ?_, .refl, hs, e3⟩
    unfold signs
    rw [List.getElem?_map, Array.getElem?_toList, e2]
    rfl
/-- lo, lo + 1, .. -/
def upTo (lo : Int) (n : Nat) : List D := (List.range n).map fun k => .int (lo + (k : Nat))
theorem upTo_length {lo : Int} {n : Nat} : (upTo lo n).length = n := by simp [upTo]
theorem upTo_get {lo : Int} {n i : Nat} (h : i < n) : (upTo lo n)[i]? = some (.int (lo + (i : Nat))) := by simp [upTo, h]
theorem wf_range {H0 : Hp} {lo : Int} {n : Nat} : WalkF K H0 (Itr lo n) (upTo lo n) (fun _ => True) :=
  wf_of walk_range upTo_length (fun _ _ _ _ _ => trivial) fun i H v H' S t hi hs _ ⟨e1, e2⟩ => by
    subst e1
    rw [upTo_length] at hi
    exact ⟨_, upTo_get hi, .refl, hs, e2⟩
def dItT (te : DTE) : DTI := fun τ S Z => te τ S fun d S1 => ∃ ds, d = .tup ds ∧ Z ds (fun _ => True) S1
def dItL (te : DTE) : DTI := fun τ S Z => te τ S fun d S1 => ∃ a ds, d = .ref a ∧ rdL S1 a ds ∧ Z ds (fun S => rdL S a ds) S1
def dItS (te : DTE) : DTI := fun τ S Z => te τ S fun d S1 => ∃ x, d = .str x ∧ Z (signs x) (fun _ => True) S1
theorem di_tup (h : DE X e te) : DI X tg e (dItT te) := imI (pi_tup h) fun σ H R ⟨τ, S, Z, r, hs, q, le⟩ =>
  ⟨τ, S, _, r, hs, q, fun v H1 d S1 t1 hs1 h1 ⟨ds, e1, q1⟩ => by
    subst e1
    obtain ⟨a, xs, e2, h2, h3⟩ := h1
    exact ⟨a, e2, ⟨xs, h2⟩, le _ H1 ds _ S1 t1 hs1 (wf_tup h2 h3) q1⟩⟩
theorem di_list (h : DE X e te) : DI X tg e (dItL te) := imI (pi_list h) fun σ H R ⟨τ, S, Z, r, hs, q, le⟩ =>
  ⟨τ, S, _, r, hs, q, fun v H1 d S1 t1 hs1 h1 ⟨a, ds, e1, rd, q1⟩ => by
    subst e1
    obtain ⟨xs, h2, h3⟩ := hs1.rd rd
    exact ⟨a, h1, ⟨xs, h2⟩, le _ H1 ds _ S1 t1 hs1 (wf_list (xs := xs) hs1 rd) q1⟩⟩
theorem di_str (h : DE X e te) : DI X tg e (dItS te) := imI (pi_str h) fun σ H R ⟨τ, S, Z, r, hs, q, le⟩ =>
  ⟨τ, S, _, r, hs, q, fun v H1 d S1 t1 hs1 h1 ⟨x, e1, q1⟩ => by
    subst e1
    exact ⟨x, h1, le _ H1 _ _ S1 t1 hs1 wf_str q1⟩⟩
/-- a tuple, a list or a text -/
abbrev dIt (te : DTE) : DTI := fun τ S Z => (dItT te τ S Z ∨ dItL te τ S Z) ∨ dItS te τ S Z
theorem di_any (h : DE X e te) : DI X tg e (dIt te) := orI (orI (di_tup h) (di_list h)) (di_str h)
def dRng1 (ta : DTA) : DTI := fun τ S Z => ta τ S fun ds S1 => ∃ j : Int, ds = [.int j] ∧ -(2 ^ 62) ≤ j ∧ j < 2 ^ 62 ∧ Z (upTo 0 j.toNat) (fun _ => True) S1
def dRng2 (ta : DTA) : DTI := fun τ S Z => ta τ S fun ds S1 => ∃ i j : Int, ds = [.int i, .int j] ∧ (-(2 ^ 62) ≤ i ∧ i < 2 ^ 62 ∧ -(2 ^ 62) ≤ j ∧ j < 2 ^ 62) ∧ Z (upTo i (j - i).toNat) (fun _ => True) S1
theorem di_range1 {a : Expr} {ta : DTA} {p pos : Pos} (hg : Gl X "range") (hm : X.mg "range" = none) (ha : DA X [a] ta) (hs : starEach [a] X.env = [(false, eval a X.env)] := by rfl) : DI X tg (.Call (.Name "range" p) [a] [] pos) (dRng1 ta) :=
  imI (pi_range1 hg hm ha hs) fun σ H R ⟨τ, S, Z, r, hs, q, le⟩ =>
  ⟨τ, S, _, r, hs, q, fun vs H1 ds S1 t1 hs1 h1 ⟨j, e1, b1, b2, q1⟩ => by
    subst e1
    obtain ⟨v, vr, e2, g1, g2⟩ := h1
    have g2 : vr = [] := g2
    have g1 : v = .int j := g1
    subst g2 g1
    exact ⟨j, e2, b1, b2, le _ H1 _ _ S1 t1 hs1 wf_range q1⟩⟩
theorem di_range2 {a b : Expr} {ta : DTA} {p pos : Pos} (hg : Gl X "range") (hm : X.mg "range" = none) (ha : DA X [a, b] ta) (hs : starEach [a, b] X.env = [(false, eval a X.env), (false, eval b X.env)] := by rfl) (hs2 : starEach [b] X.env = [(false, eval b X.env)] := by rfl) : DI X tg (.Call (.Name "range" p) [a, b] [] pos) (dRng2 ta) :=
  imI (pi_range2 hg hm ha hs hs2) fun σ H R ⟨τ, S, Z, r, hs, q, le⟩ =>
  ⟨τ, S, _, r, hs, q, fun vs H1 ds S1 t1 hs1 h1 ⟨i, j, e1, b1, q1⟩ => by
    subst e1
    obtain ⟨v, vr, e2, g1, w, wr, e3, g2, g3⟩ := h1
    have g3 : wr = [] := g3
    have g1 : v = .int i := g1
    have g2 : w = .int j := g2
    subst g3 g1 g2 e3
    exact ⟨i, j, e2, b1, le _ H1 _ _ S1 t1 hs1 wf_range q1⟩⟩
/-- reversed(x), x a tuple or a list -/
def dRevT (te : DTE) : DTI := fun τ S Z => te τ S fun d S1 => ∃ ds, d = .tup ds ∧ Z ds.reverse (fun _ => True) S1
def dRevL (te : DTE) : DTI := fun τ S Z => te τ S fun d S1 => ∃ a ds, d = .ref a ∧ rdL S1 a ds ∧ Z ds.reverse (fun S => rdL S a ds) S1
theorem rev_get {α : Type} {l : List α} {i : Nat} (h : i < l.length) : l.reverse[i]? = l[l.length - 1 - i]? := by
  rw [List.getElem?_reverse h]
theorem wf_revT {H0 : Hp} {a : Addr} {xs : List V} {ds : List D} (q : SqT K H0 a xs) (r : DvA K H0 ds xs) : WalkF K H0 (RT.ItvT K a xs.length) ds.reverse (fun _ => True) where
  goes := fun i H S t hi _ _ => by
    rw [List.length_reverse, r.length] at hi
    exact ⟨hi, xs, xs[xs.length - 1 - i]'(by omega), t a xs q, by simp [show xs.length - 1 - i < xs.length by omega]⟩
  stops := fun H S t _ _ => by
    rw [List.length_reverse, r.length]
    exact Nat.le_refl _
  yields := fun i H x H' S t hi hs _ ⟨e1, y⟩ => by
    subst e1
    rw [List.length_reverse] at hi
    have hl := r.length
    obtain ⟨v, g1, g2⟩ := r.get (i := ds.length - 1 - i) (d := ds[ds.length - 1 - i]'(by omega)) (by simp [show ds.length - 1 - i < ds.length by omega])
    have y' := y xs (t a xs q)
    rw [← hl, g1] at y'
    cases y'
    exact ⟨_, by rw [rev_get hi]; simp [show ds.length - 1 - i < ds.length by omega], .refl, hs, g2.mono t⟩
theorem wf_revL {H0 : Hp} {a : Addr} {ds : List D} {n : Nat} (hn : n = ds.length) : WalkF K H0 (Itv K a n) ds.reverse (fun S => rdL S a ds) where
  goes := fun i H S t hi hs h => by
    obtain ⟨xs, h1, h2⟩ := hs.rd h
    have hl := h2.length
    rw [List.length_reverse] at hi
    exact ⟨by omega, xs, xs[n - 1 - i]'(by omega), h1, by simp [show n - 1 - i < xs.length by omega]⟩
  stops := fun H S t _ _ => by
    rw [List.length_reverse, ← hn]
    exact Nat.le_refl _
  yields := fun i H x H' S t hi hs h ⟨e1, y⟩ => by
    subst e1
    rw [List.length_reverse] at hi
    obtain ⟨xs, h1, h2⟩ := hs.rd h
    obtain ⟨v, g1, g2⟩ := h2.get (i := ds.length - 1 - i) (d := ds[ds.length - 1 - i]'(by omega)) (by simp [show ds.length - 1 - i < ds.length by omega])
    have y' := y xs h1
    rw [hn, g1] at y'
    cases y'
    exact ⟨_, by rw [rev_get hi]; simp [show ds.length - 1 - i < ds.length by omega], .refl, hs, g2⟩
theorem di_revT {p pos : Pos} (hg : Gl X "reversed") (hm : X.mg "reversed" = none) (h : DE X e te) (hs : starEach [e] X.env = (false, eval e X.env) :: starEach [] X.env := by rfl) : DI X tg (.Call (.Name "reversed" p) [e] [] pos) (dRevT te) :=
  imI (RT.pi_revA hg hm h hs) fun σ H R ⟨τ, S, Z, r, hs, q, le⟩ =>
  ⟨τ, S, _, r, hs, q, fun v H1 d S1 t1 hs1 h1 ⟨ds, e1, q1⟩ => by
    subst e1
    obtain ⟨a, xs, e2, h2, h3⟩ := h1
    exact ⟨a, xs, e2, .inr ⟨h2, le _ H1 _ _ S1 t1 hs1 (wf_revT h2 h3) q1⟩⟩⟩
theorem di_revL {p pos : Pos} (hg : Gl X "reversed") (hm : X.mg "reversed" = none) (h : DE X e te) (hs : starEach [e] X.env = (false, eval e X.env) :: starEach [] X.env := by rfl) : DI X tg (.Call (.Name "reversed" p) [e] [] pos) (dRevL te) :=
  imI (RT.pi_revA hg hm h hs) fun σ H R ⟨τ, S, Z, r, hs, q, le⟩ =>
  ⟨τ, S, _, r, hs, q, fun v H1 d S1 t1 hs1 h1 ⟨a, ds, e1, rd, q1⟩ => by
    subst e1
    obtain ⟨xs, h2, h3⟩ := hs1.rd rd
    exact ⟨a, xs, h1, .inl ⟨h2, le _ H1 _ _ S1 t1 hs1 (wf_revL h3.length.symm) q1⟩⟩⟩
abbrev dRev (te : DTE) : DTI := fun τ S Z => dRevT te τ S Z ∨ dRevL te τ S Z
theorem di_rev {p pos : Pos} (hg : Gl X "reversed") (hm : X.mg "reversed" = none) (h : DE X e te) (hs : starEach [e] X.env = (false, eval e X.env) :: starEach [] X.env := by rfl) : DI X tg (.Call (.Name "reversed" p) [e] [] pos) (dRev te) := orI (di_revT hg hm h hs) (di_revL hg hm h hs)
end

/-! ### for -/
section
variable {X : Cx} {tg iter : Expr} {body : List Stmt} {wi : DTI} {g : DTG} {tb : DTS} {pos : Pos}
def dFor (wi : DTI) (g : DTG) (tb : DTS) : DTS := fun E τ S => wi τ S fun ds st S1 => ∃ I : Nat → DSt → DS → Prop, I 0 τ S1 ∧ (∀ i τ S, i ≤ ds.length → I i τ S → st S) ∧
  (∀ i d τ S, ds[i]? = some d → I i τ S → g d τ S fun τ2 S2 => tb { E with nx := I (i + 1), ct := I (i + 1), bk := E.nx } τ2 S2) ∧ ∀ τ S, I ds.length τ S → E.nx τ S
theorem ds_for (hp : PassesOwn (model X.prog X.w) X.A X.env X.xe) (hc : X.calm = true) (hi : DI X tg iter wi) (hg : DG X tg g) (hb : DSs X body tb) (hs : ∀ x, foldedSetIterable iter X.env x = pure x := by intro _; rfl) : DSm X (.For tg iter body [] pos) (dFor wi g tb) :=
  imS (ps_for hp hc hi hg hb hs) fun F σ H ⟨τ, S, E, r, hs, q, le⟩ =>
  ⟨τ, S, _, r, hs, q, fun J H1 ds st S1 t1 hs1 wf ⟨I, i0, ist, turn, fin⟩ => by
    refine ⟨fun i m σ' H' => m = ds.length - i ∧ i ≤ ds.length ∧ ∃ τ' S', TupLe X.K H1 H' ∧ RelS X.K H' τ' σ' ∧ HS X.K H' S' ∧ I i τ' S', ⟨_, rfl, Nat.zero_le _, τ, S1, .refl, r.mono t1, hs1, i0⟩, ?_⟩
    rintro i m σ2 H2 ⟨rfl, hi, τ2, S2, t2, r2, hs2, i2⟩
    by_cases hlt : i < ds.length
    · refine .inr ⟨wf.goes i H2 S2 t2 hlt hs2 (ist i τ2 S2 hi i2), fun σ' H' => ∃ τ' S', TupLe X.K H1 H' ∧ RelS X.K H' τ' σ' ∧ HS X.K H' S' ∧ I (i + 1) τ' S', fun σ' H' h => ⟨_, by omega, rfl, hlt, h⟩, fun x H3 y => ?_⟩
      obtain ⟨d, e1, t3, hs3, h3⟩ := wf.yields i H2 x H3 S2 t2 hlt hs2 (ist i τ2 S2 hi i2) y
      refine ⟨d, τ2, S2, _, h3, r2.mono t3, hs3, turn i d τ2 S2 e1 i2, fun σ4 H4 τ4 S4 t4 r4 hs4 q4 => ?_⟩
      refine ⟨τ4, S4, _, r4, hs4, q4, ?_⟩
      have t14 : TupLe X.K H1 H4 := (t2.trans t3).trans t4
      exact ⟨fun σ' H' τ' S' t' r' hs' q' => ⟨τ', S', t14.trans t', r', hs', q'⟩, (le.then (t1.trans t14)).rt, (le.then (t1.trans t14)).nx, fun σ' H' τ' S' t' r' hs' q' => ⟨τ', S', t14.trans t', r', hs', q'⟩⟩
    · have e : i = ds.length := by omega
      subst e
      exact .inl ⟨wf.stops H2 S2 t2 hs2 (ist _ τ2 S2 hi i2), le.nx σ2 H2 τ2 S2 (t1.trans t2) r2 hs2 (fin τ2 S2 i2)⟩⟩
end

/-! ### a comprehension's block -/
theorem wipe_get {σ : L2.St} {j : Nat} : ∀ vs : List Nat, (L2.wipe σ vs)[j]? = if j ∈ vs then (σ[j]?).map (fun _ => none) else σ[j]?
  | [] => by simp [L2.wipe]
  | v :: vs => by
    unfold L2.wipe
    rw [List.getElem?_set, wipe_length]
    by_cases e : v = j
    · subst e
      simp only [List.mem_cons, true_or, if_true]
      by_cases h : v < σ.length
      · simp [h]
      · simp [h]
    · have e' : ¬ j = v := fun z => e z.symm
      simp only [e, e', if_false, List.mem_cons, false_or]
      exact wipe_get vs
theorem wipe_set {σ : L2.St} {i : Nat} {x : Option V} {vs : List Nat} (h : i ∈ vs) : L2.wipe (σ.set i x) vs = L2.wipe σ vs := by
  refine List.ext_getElem? fun j => ?_
  rw [wipe_get, wipe_get]
  by_cases e : i = j
  · subst e
    rw [if_pos h, if_pos h]
    by_cases hl : i < σ.length
    · simp [hl]
    · simp [hl]
  · rw [List.getElem?_set_ne e]
/-- a target of a comprehension: it sets slots of vs alone -/
def lGw (K : PySem.W.Frag) (vs : List Nat) (g : DTG) : TG := fun v σ H Q => ∃ d τ S R, Dv K H d v ∧ RelS K H τ σ ∧ HS K H S ∧ g d τ S R ∧ ∀ σ' H' τ' S', TupLe K H H' → RelS K H' τ' σ' → HS K H' S' → L2.wipe σ' vs = L2.wipe σ vs → R τ' S' → Q σ' H'
def lGws (K : PySem.W.Frag) (vs : List Nat) (g : DTGs) : TGs := fun us σ H Q => ∃ ds τ S R, DvA K H ds us ∧ RelS K H τ σ ∧ HS K H S ∧ g ds τ S R ∧ ∀ σ' H' τ' S', TupLe K H H' → RelS K H' τ' σ' → HS K H' S' → L2.wipe σ' vs = L2.wipe σ vs → R τ' S' → Q σ' H'
section
variable {X : Cx} {e elt tg iter : Expr} {es : List Expr} {ifs : List Expr} {scope : Scope} {own : List (Str × Nat)} {pos : Pos} {wi : DTI} {g : DTG} {tt : DTT} {te : DTE} {vs : List Nat}
abbrev DGw (X : Cx) (vs : List Nat) (e : Expr) (g : DTG) : Prop := PG X e (lGw X.K vs g)
abbrev DGws (X : Cx) (vs : List Nat) (es : List Expr) (g : DTGs) : Prop := PGs X es (lGws X.K vs g)
theorem dgw_name {i : Nat} {x : Str} (hv : i ∈ vs) (hN : X.N.Nodup) (hi : X.N[i]? = some x) (hx : Loc X.env.scope x) (hf : X.fn x = true ∨ X.env.scope.names.lookup x = some .local := by first | exact .inl rfl | exact .inr rfl | assumption) : DGw X vs (.Name x pos) (dgName i) :=
  imG (pg_name hN hi hx hf) fun v σ H Q ⟨d, τ, S, R, h, r, hs, q, le⟩ => le _ H _ S .refl (r.set h i) hs (wipe_set hv) q
theorem dgws_nil : DGws X vs [] dgNil := imGs pgs_nil fun v σ H Q ⟨d, τ, S, R, h, r, hs, ⟨e1, q⟩, le⟩ => by
  subst e1
  exact ⟨h, le _ H _ S .refl r hs rfl q⟩
theorem dgws_cons {u : DTGs} (h1 : DGw X vs e g) (h2 : DGws X vs es u) (hw : (assignEach (e :: es) X.env).map (·.2) = assign e X.env :: (assignEach es X.env).map (·.2) := by rfl) : DGws X vs (e :: es) (dgCons g u) :=
  imGs (pgs_cons h1 h2 hw) fun us σ H Q ⟨ds, τ, S, R, h, r, hs, ⟨d, dr, e1, q⟩, le⟩ => by
    subst e1
    obtain ⟨v, vr, e2, h1, h2⟩ := h
    exact ⟨v, vr, e2, d, τ, S, _, h1, r, hs, q, fun σ' H' τ' S' t' r' hs' w' q' => ⟨dr, τ', S', R, h2.mono t', r', hs', q', fun σ2 H2 τ2 S2 t2 r2 hs2 w2 q2 => le σ2 H2 τ2 S2 (t'.trans t2) r2 hs2 (w2.trans w') q2⟩⟩
theorem dgw_tup {u : DTGs} {n k : Nat} (hc : X.calm = true) (h : DGws X vs es u) (hn : (assignEach es X.env).length = n := by rfl) (hst : (assignEach es X.env).findIdx? (·.1) = none := by rfl) : DGw X vs (.Tuple es k pos) (dgTup n u) :=
  imG (pg_tup hc h hn hst) fun v σ H Q ⟨d, τ, S, R, h, r, hs, ⟨ds, e1, hl, q⟩, le⟩ => by
    subst e1
    obtain ⟨a, xs, e2, hq, hx⟩ := h
    exact ⟨a, xs, e2, hq, by rw [← hx.length]; exact hl, ds, τ, S, R, hx, r, hs, q, le⟩
abbrev DTs (X : Cx) (ifs : List Expr) (t : DTT) : Prop := PTs X ifs (lT X.K t)
def dYes : DTT := fun _ S R => R true S
theorem dts_nil : DTs X [] dYes := ⟨fun p s σ H Q I ⟨τ, S, R, r, hs, q, le⟩ => pts_nil.run p s σ H Q I (le true H S .refl hs q)⟩
theorem dts_one {c : Expr} {t : DTT} (h : DT X c t) : DTs X [c] t := pts_one h
theorem RelS.wipe {K : PySem.W.Frag} {H : Hp} {τ : DSt} {σ : L2.St} (r : RelS K H τ σ) : ∀ vs : List Nat, RelS K H (dwipe τ vs) (L2.wipe σ vs)
  | [] => r
  | i :: vs => (RelS.wipe r vs).setN i none
/-- the new list stands at p all the while -/
def dLc (wi : DTI) (g : DTG) (tt : DTT) (te : DTE) (vs : List Nat) : DTE := fun τ S R => wi τ S fun ds st S1 => ∀ p, Fresh S1 p → ∃ I : Nat → DS → Prop, I 0 (S1.set p (.lst [])) ∧ (∀ i S, i ≤ ds.length → I i S → st S) ∧
  (∀ i d S, ds[i]? = some d → I i S → g d (dwipe τ vs) S fun τ2 S2 => tt τ2 S2 fun b S3 => if b = true then te τ2 S3 fun y S4 => ∃ acc, S4 p = some (.lst acc) ∧ acc.length < sizeLine ∧ I (i + 1) (S4.set p (.lst (acc ++ [y]))) else I (i + 1) S3) ∧
  ∀ S, I ds.length S → R (.ref p) S
theorem lc_lift {K : PySem.W.Frag} {σ : L2.St} {H : Hp} {Q : VK} (h : lE K (dLc wi g tt te vs) σ H Q) : tLc (lI K wi) (lGw K vs g) (lT K tt) (lE K te) vs σ H Q := by
  obtain ⟨τ, S, R, r, hs, q, le⟩ := h
  refine ⟨τ, S, _, r, hs, q, fun J H1 ds st S1 t1 hs1 wf q1 p np => ?_⟩
  obtain ⟨I, i0, ist, turn, fin⟩ := q1 p (hs1.fresh np)
  have t2 : TupLe K H1 (upd H1 p (.lst [])) := tl_new np
  refine ⟨fun i m H' => m = ds.length - i ∧ i ≤ ds.length ∧ ∃ S', TupLe K H1 H' ∧ HS K H' S' ∧ I i S', ⟨_, rfl, Nat.zero_le _, _, t2, hs1.upd (d := .lst []) t2 ⟨[], upd_same, rfl⟩, i0⟩, ?_⟩
  rintro i m H2 ⟨rfl, hi, S2, t3, hs2, i2⟩
  by_cases hlt : i < ds.length
  · refine .inr ⟨wf.goes i H2 S2 t3 hlt hs2 (ist i S2 hi i2), fun H' => ∃ S', TupLe K H1 H' ∧ HS K H' S' ∧ I (i + 1) S', fun H' h => ⟨_, by omega, rfl, hlt, h⟩, fun x H3 y => ?_⟩
    obtain ⟨d, e1, t4, hs3, h3⟩ := wf.yields i H2 x H3 S2 t3 hlt hs2 (ist i S2 hi i2) y
    refine ⟨d, dwipe τ vs, S2, _, h3, (((r.mono t1).mono t3).mono t4).wipe vs, hs3, turn i d S2 e1 i2, fun σ4 H4 τ4 S4 t5 r4 hs4 w4 q4 => ⟨?_, ?_⟩⟩
    · refine w4.trans ?_
      refine List.ext_getElem? fun j => ?_
      rw [wipe_get, wipe_get]
      by_cases hj : j ∈ vs
      · simp only [hj, if_true]
        cases σ[j]? <;> rfl
      · simp only [hj, if_false]
    · refine ⟨τ4, S4, _, r4, hs4, q4, fun b H5 S5 t6 hs5 q5 => ?_⟩
      have t15 : TupLe K H1 H5 := ((t3.trans t4).trans t5).trans t6
      cases b with
      | true =>
        rw [if_pos rfl] at q5
        refine L2.iteT ?_
        refine ⟨τ4, S5, _, r4.mono t6, hs5, q5, fun y' H6 d6 S6 t7 hs6 h6 ⟨acc, e6, l6, i6⟩ => ?_⟩
        obtain ⟨xs, g1, g2⟩ := hs6 p _ e6
        have t8 : TupLe K H6 (upd H6 p (.lst (xs ++ [y']))) := tl_lst g1
        refine ⟨xs, g1, by rw [← g2.length]; exact l6, S6.set p (.lst (acc ++ [d6])), (t15.trans t7).trans t8, hs6.upd (d := .lst (acc ++ [d6])) t8 ⟨_, upd_same, (g2.mono t8).append (.cons (h6.mono t8) rfl)⟩, i6⟩
      | false =>
        rw [if_neg Bool.false_ne_true] at q5
        exact L2.iteF ⟨S5, t15, hs5, q5⟩
  · have e : i = ds.length := by omega
    subst e
    exact .inl ⟨wf.stops H2 S2 t3 hs2 (ist _ S2 hi i2), le _ H2 (.ref p) S2 (t1.trans t3) hs2 rfl (fin S2 i2)⟩
theorem de_lc (hc : X.calm = true) (hN : X.N.Nodup) (hi : DI X tg iter wi) (ok : BlkOk X.N X.env.scope scope own)
    (hg : ∀ (s : Shared) (H : Hp) (C : Addr) (cl : List (Str × Addr)) (fp : List Addr), DGw (X.blk s H scope (compEnvC scope cl C X.env) fp) (own.map (·.2)) tg g)
    (ht : ∀ (s : Shared) (H : Hp) (C : Addr) (cl : List (Str × Addr)) (fp : List Addr), DTs (X.blk s H scope (compEnvC scope cl C X.env) fp) ifs tt)
    (he : ∀ (s : Shared) (H : Hp) (C : Addr) (cl : List (Str × Addr)) (fp : List Addr), DE (X.blk s H scope (compEnvC scope cl C X.env) fp) elt te)
    (hs : ∀ x, foldedSetIterable iter X.env x = pure x := by intro _; rfl) : DE X (.ListComp elt [⟨tg, iter, ifs, 0⟩] scope pos) (dLc wi g tt te (own.map (·.2))) :=
  imE (pe_lc hc hN hi ok hg ht he hs) fun _ _ _ => lc_lift
theorem ds_setLc {i : Nat} {y : Str} {py spos : Pos} (hc : X.calm = true) (hN : X.N.Nodup) (hy : X.N[i]? = some y) (hyl : X.env.scope.names.lookup y = some .local)
    (hsw : swapsWith (.ListComp elt [⟨tg, iter, ifs, 0⟩] scope pos) (some (.Name y py)) spos.line X.env = pure true) (hi : DI X tg iter wi) (ok : BlkOk X.N X.env.scope scope own)
    (hg : ∀ (s : Shared) (H : Hp) (C : Addr) (cl : List (Str × Addr)) (fp : List Addr), DGw (X.blk s H scope (compEnvC scope cl C X.env) fp) (own.map (·.2)) tg g)
    (ht : ∀ (s : Shared) (H : Hp) (C : Addr) (cl : List (Str × Addr)) (fp : List Addr), DTs (X.blk s H scope (compEnvC scope cl C X.env) fp) ifs tt)
    (he : ∀ (s : Shared) (H : Hp) (C : Addr) (cl : List (Str × Addr)) (fp : List Addr), DE (X.blk s H scope (compEnvC scope cl C X.env) fp) elt te)
    (hs : ∀ x, foldedSetIterable iter X.env x = pure x := by intro _; rfl) : DSm X (.Assign [.Name y py] (.ListComp elt [⟨tg, iter, ifs, 0⟩] scope pos) spos) (dSet i (dLc wi g tt te (own.map (·.2)))) :=
  imS (ps_setLc hc hN hy hyl hsw hi ok hg ht he hs) fun F σ H ⟨τ, S, E, r, hs, q, le⟩ => by
    refine lc_lift (K := X.K) ⟨τ, S, _, r, hs, q, fun v H1 d S1 t1 hs1 h1 q1 => ?_⟩
    exact le.nx _ H1 _ S1 t1 ((r.mono t1).set h1 i) hs1 q1
end
end DL

/-! DL4: operators, comparisons, subscripts, slices by data -/
namespace DL
open PySem PySem.Spec PyProof.Rows L2

section
variable {X : Cx} {K : PySem.W.Frag} {H : Hp} {S : DS} {R : DK} {Q : VK}
theorem fin_int {i : Int} (le : LeE K H R Q) (hs : HS K H S) (q : R (.int i) S) : Q (.int i) H := le (.int i) H (.int i) S .refl hs rfl q
theorem fin_b {i : Bool} (le : LeE K H R Q) (hs : HS K H S) (q : R (.bl i) S) : Q (.bl i) H := le (.bl i) H (.bl i) S .refl hs rfl q
theorem fin_str {i : Str} (le : LeE K H R Q) (hs : HS K H S) (q : R (.str i) S) : Q (.str i) H := le (.str i) H (.str i) S .refl hs rfl q
theorem fin_v {d : D} {v : V} (le : LeE K H R Q) (hs : HS K H S) (h : Dv K H d v) (q : R d S) : Q v H := le v H d S .refl hs h q

/-! ### + - * // % ** -/
def rAdd : DR2 := fun x y S R => match x, y with
  | .int i, .int j => R (.int (i + j)) S
  | .str a, .str b => a.length + b.length ≤ sizeLine ∧ R (.str (a ++ b)) S
  | .tup a, .tup b => a.length + b.length ≤ sizeLine ∧ R (.tup (a ++ b)) S
  | .ref a, .ref b => ∃ ds es, S a = some (.lst ds) ∧ S b = some (.lst es) ∧ ds.length + es.length ≤ sizeLine ∧ ∀ p, Fresh S p → R (.ref p) (S.set p (.lst (ds ++ es)))
  | _, _ => False
theorem op_Add : OpR X (binaryOp .Add) (l2 X.K rAdd) := by
  intro pins s σ H x y v u Q I rx ry ⟨dx, dy, S, R, hx, hy, hs, q, le⟩
  cases dx with
  | int i =>
    cases dy with
    | int j => cases hx; cases hy; exact op_add pins s σ H _ _ v u Q I rx ry ⟨i, j, rfl, rfl, fin_int le hs q⟩
    | _ => exact False.elim q
  | str i =>
    cases dy with
    | str j => cases hx; cases hy; exact op_add_str pins s σ H _ _ v u Q I rx ry ⟨i, j, rfl, rfl, q.1, fin_str le hs q.2⟩
    | _ => exact False.elim q
  | tup i =>
    cases dy with
    | tup j =>
      obtain ⟨a, xs, e1, h1, g1⟩ := hx
      obtain ⟨b, ys, e2, h2, g2⟩ := hy
      obtain ⟨z, q⟩ := q
      refine op_catA pins s σ H _ _ v u Q I rx ry ⟨a, b, xs, ys, e1, e2, h1, h2, by rw [← g1.length, ← g2.length]; exact z, fun e => ?_, fun ne e => ?_, fun _ _ => new_tup le hs (g1.append g2) q⟩
      · subst e
        have e' : i = [] := List.eq_nil_of_length_eq_zero g1.length
        subst e'
        exact fin_v (d := .tup j) le hs ⟨b, ys, rfl, h2, g2⟩ q
      · subst e
        have e' : j = [] := List.eq_nil_of_length_eq_zero g2.length
        subst e'
        rw [List.append_nil] at q
        exact fin_v (d := .tup i) le hs ⟨a, xs, rfl, h1, g1⟩ q
    | _ => exact False.elim q
  | ref a =>
    cases dy with
    | ref b =>
      obtain ⟨ds, es, e1, e2, z, q⟩ := q
      obtain ⟨xs, h1, g1⟩ := hs a _ e1
      obtain ⟨ys, h2, g2⟩ := hs b _ e2
      exact op_cat pins s σ H _ _ v u Q I rx ry ⟨a, b, xs, ys, hx, hy, h1, h2, by rw [← g1.length, ← g2.length]; exact z, new_lst le hs (g1.append g2) q⟩
    | _ => exact False.elim q
  | _ => exact False.elim q
def rSub : DR2 := fun x y S R => match x, y with
  | .int i, .int j => R (.int (i - j)) S
  | _, _ => False
theorem op_Sub : OpR X (binaryOp .Sub) (l2 X.K rSub) := by
  intro pins s σ H x y v u Q I rx ry ⟨dx, dy, S, R, hx, hy, hs, q, le⟩
  cases dx with
  | int i =>
    cases dy with
    | int j => cases hx; cases hy; exact op_sub pins s σ H _ _ v u Q I rx ry ⟨i, j, rfl, rfl, fin_int le hs q⟩
    | _ => exact False.elim q
  | _ => exact False.elim q
theorem DvA.replicate {ds : List D} {xs : List V} (h : DvA K H ds xs) : ∀ n : Nat, DvA K H (List.replicate n ds).flatten (List.replicate n xs).flatten
  | 0 => rfl
  | n + 1 => by
    rw [List.replicate_succ, List.replicate_succ, List.flatten_cons, List.flatten_cons]
    exact h.append (DvA.replicate h n)
/-- a text so many times -/
def repS (x : Str) (k : Int) : Str := ⟨(List.replicate k.toNat x.cps.toList).flatten.toArray⟩
theorem repS_mul (x : Str) (k : Int) : Txt.mul x k = repS x k := by
  unfold Txt.mul repS
  have fl : ∀ (l : List (Array Nat)) (a : Array Nat), (l.foldl (· ++ ·) a).toList = a.toList ++ (l.map Array.toList).flatten := by
    intro l
    induction l with
    | nil => intro a; simp
    | cons b l ih => intro a; rw [List.foldl_cons, ih, List.map_cons, List.flatten_cons, Array.toList_append, List.append_assoc]
  split
  · next h =>
    have e : k.toNat = 0 := by omega
    rw [e]
    rfl
  · next h =>
    split
    · next h2 =>
      rcases (Bool.or_eq_true _ _).mp h2 with h3 | h3
      · have e : k = 1 := by simpa using h3
        subst e
        simp
      · have e : x.cps.size = 0 := by
          have : x.length = 0 := by simpa using h3
          exact this
        have e2 : x.cps = #[] := Array.eq_empty_of_size_eq_zero e
        have e3 : (List.replicate k.toNat x.cps.toList).flatten = [] := by
          rw [e2]
          generalize k.toNat = n
          induction n with
          | zero => rfl
          | succ n ih => rw [List.replicate_succ, List.flatten_cons, ih]; rfl
        rw [e3]
        cases x with
        | mk c =>
          have e2' : c = #[] := e2
          rw [e2']
    · next h2 =>
      congr 1
      apply Array.toList_inj.mp
      rw [fl]
      simp
def rMul : DR2 := fun x y S R => match x, y with
  | .int i, .int j => CMul i j ∧ R (.int (i * j)) S
  | .str a, .int k => k ≤ 1000000 ∧ -1000000 ≤ k ∧ a.length ≤ 1000000 ∧ a.length * k.toNat ≤ sizeLine ∧ R (.str (repS a k)) S
  | .ref a, .int k => ∃ ds, S a = some (.lst ds) ∧ -(2 ^ 63) ≤ k ∧ k < 2 ^ 63 ∧ ds.length * k.toNat ≤ sizeLine ∧ ∀ p, Fresh S p → R (.ref p) (S.set p (.lst (List.replicate k.toNat ds).flatten))
  | _, _ => False
theorem op_Mul : OpR X (binaryOp .Mult) (l2 X.K rMul) := by
  intro pins s σ H x y v u Q I rx ry ⟨dx, dy, S, R, hx, hy, hs, q, le⟩
  cases dx with
  | int i =>
    cases dy with
    | int j => cases hx; cases hy; exact op_mul pins s σ H _ _ v u Q I rx ry ⟨i, j, rfl, rfl, q.1, fin_int le hs q.2⟩
    | _ => exact False.elim q
  | str a =>
    cases dy with
    | int k =>
      cases hx
      cases hy
      obtain ⟨t, rfl⟩ := rx
      obtain ⟨t', rfl⟩ := ry
      obtain ⟨b1, b2, b3, b4, q⟩ := q
      refine SB.mul ⟨?_, fun h1 _ => ?_, fun _ _ => ?_⟩ fun t2 k2 => ?_
      · simp only [Bool.or_eq_false_iff, decide_eq_false_iff_not]
        omega
      · intro h2
        have h3 : (a.length : Int) ≤ (2 ^ 63 - 1) / k := by
          refine (Int.le_ediv_iff_mul_le (by omega)).mpr ?_
          have h4 : (a.length : Int) * k ≤ 1000000 * 1000000 := Int.mul_le_mul (by omega) (by omega) (by omega) (by omega)
          omega
        omega
      · unfold Builtin.Str.tooLong
        simp only [decide_eq_false_iff_not]
        have e := sizeLine_eq
        omega
      · rw [repS_mul]
        exact ⟨.str (repS a k), H, I.tok _, ⟨_, rfl⟩, fin_str le hs q⟩
    | _ => exact False.elim q
  | ref a =>
    cases dy with
    | int k =>
      obtain ⟨ds, e1, b1, b2, z, q⟩ := q
      obtain ⟨xs, h1, g1⟩ := hs a _ e1
      exact op_rep pins s σ H _ _ v u Q I rx ry ⟨a, k, xs, hx, hy, h1, b1, b2, by rw [← g1.length]; exact z, new_lst le hs (g1.replicate _) q⟩
    | _ => exact False.elim q
  | _ => exact False.elim q
/-- //: by a positive divisor below 2 ^ 30 -/
def rDiv : DR2 := fun x y S R => match x, y with
  | .int i, .int j => CDiv i j ∧ R (.int (i / j)) S
  | _, _ => False
theorem op_Div : OpR X (binaryOp .FloorDiv) (l2 X.K rDiv) := by
  intro pins s σ H x y v u Q I rx ry ⟨dx, dy, S, R, hx, hy, hs, q, le⟩
  cases dx with
  | int i =>
    cases dy with
    | int j => cases hx; cases hy; exact op_fdiv pins s σ H _ _ v u Q I rx ry ⟨i, j, rfl, rfl, q.1, fin_int le hs q.2⟩
    | _ => exact False.elim q
  | _ => exact False.elim q
def rMod : DR2 := fun x y S R => match x, y with
  | .int i, .int j => 0 < j ∧ R (.int (i % j)) S
  | _, _ => False
theorem op_Mod : OpR X (binaryOp .Mod) (l2 X.K rMod) := by
  intro pins s σ H x y v u Q I rx ry ⟨dx, dy, S, R, hx, hy, hs, q, le⟩
  cases dx with
  | int i =>
    cases dy with
    | int j => cases hx; cases hy; exact op_mod pins s σ H _ _ v u Q I rx ry ⟨i, j, rfl, rfl, q.1, fin_int le hs q.2⟩
    | _ => exact False.elim q
  | _ => exact False.elim q
def rPow : DR2 := fun x y S R => match x, y with
  | .int i, .int j => CPow i j ∧ R (.int (i ^ j.toNat)) S
  | _, _ => False
theorem op_Pow : OpR X (binaryOp .Pow) (l2 X.K rPow) := by
  intro pins s σ H x y v u Q I rx ry ⟨dx, dy, S, R, hx, hy, hs, q, le⟩
  cases dx with
  | int i =>
    cases dy with
    | int j => cases hx; cases hy; exact op_pow pins s σ H _ _ v u Q I rx ry ⟨i, j, rfl, rfl, q.1, fin_int le hs q.2⟩
    | _ => exact False.elim q
  | _ => exact False.elim q
def rNeg : DR1 := fun x S R => match x with
  | .int i => R (.int (-i)) S
  | _ => False
theorem un_Neg : UnR X (unaryOp .USub) (l1 X.K rNeg) := by
  intro pins s σ H x v Q I rx ⟨dx, S, R, hx, hs, q, le⟩
  cases dx with
  | int i => cases hx; exact un_neg pins s σ H _ v Q I rx ⟨i, rfl, fin_int le hs q⟩
  | _ => exact False.elim q

/-! ### comparisons of ints and texts -/
def rCmp (p : Int → Int → Bool) (q : Str → Str → Bool) : DR2 := fun x y S R => match x, y with
  | .int i, .int j => R (.bl (p i j)) S
  | .str i, .str j => R (.bl (q i j)) S
  | _, _ => False
abbrev rLt : DR2 := rCmp (fun i j => decide (i < j)) fun i j => decide (i.cps.toList < j.cps.toList)
abbrev rLe : DR2 := rCmp (fun i j => decide (i ≤ j)) fun i j => !decide (j.cps.toList < i.cps.toList)
abbrev rGt : DR2 := rCmp (fun i j => decide (j < i)) fun i j => decide (j.cps.toList < i.cps.toList)
abbrev rGe : DR2 := rCmp (fun i j => decide (j ≤ i)) fun i j => !decide (i.cps.toList < j.cps.toList)
theorem op_cmpD {f : Value → Value → Sem Value} {p : Int → Int → Bool} {q : Str → Str → Bool} (hi : OpR X f (rI0 fun i j => .bl (p i j))) (hs : OpR X f (fun x y H Q => ∃ i j, x = .str i ∧ y = .str j ∧ Q (.bl (q i j)) H)) : OpR X f (l2 X.K (rCmp p q)) := by
  intro pins s σ H x y v u Q I rx ry ⟨dx, dy, S, R, hx, hy, hs', h, le⟩
  cases dx with
  | int i =>
    cases dy with
    | int j => cases hx; cases hy; exact hi pins s σ H _ _ v u Q I rx ry ⟨i, j, rfl, rfl, fin_b le hs' h⟩
    | _ => exact False.elim h
  | str i =>
    cases dy with
    | str j => cases hx; cases hy; exact hs pins s σ H _ _ v u Q I rx ry ⟨i, j, rfl, rfl, fin_b le hs' h⟩
    | _ => exact False.elim h
  | _ => exact False.elim h
theorem op_Lt : OpR X (compareOp .Lt) (l2 X.K rLt) := op_cmpD op_lt op_lt_str
theorem op_Le : OpR X (compareOp .LtE) (l2 X.K rLe) := op_cmpD op_le op_le_str
theorem op_Gt : OpR X (compareOp .Gt) (l2 X.K rGt) := op_cmpD op_gt op_gt_str
theorem op_Ge : OpR X (compareOp .GtE) (l2 X.K rGe) := op_cmpD op_ge op_ge_str
/-- is None, is not None -/
def isNonD : D → Bool
  | .non => true
  | _ => false
def rIsN : DR2 := fun x y S R => match y with
  | .non => R (.bl (isNonD x)) S
  | _ => False
def rNotN : DR2 := fun x y S R => match y with
  | .non => R (.bl (!isNonD x)) S
  | _ => False
theorem isNon_dec {d : D} {v : V} (h : Dv K H d v) : decide (v = .non) = isNonD d := by
  cases d with
  | tup ds =>
    obtain ⟨a, xs, e, _⟩ := h
    rw [e]
    rfl
  | _ => cases h; rfl
theorem op_IsN : OpR X (compareOp .Is) (l2 X.K rIsN) := by
  intro pins s σ H x y v u Q I rx ry ⟨dx, dy, S, R, hx, hy, hs, q, le⟩
  cases dy with
  | non => cases hy; exact op_isN pins s σ H _ _ v u Q I rx ry ⟨rfl, by rw [isNon_dec hx]; exact fin_b le hs q⟩
  | _ => exact False.elim q
theorem op_NotN : OpR X (compareOp .IsNot) (l2 X.K rNotN) := by
  intro pins s σ H x y v u Q I rx ry ⟨dx, dy, S, R, hx, hy, hs, q, le⟩
  cases dy with
  | non => cases hy; exact op_notN pins s σ H _ _ v u Q I rx ry ⟨rfl, by rw [isNon_dec hx]; exact fin_b le hs q⟩
  | _ => exact False.elim q

/-! ### subscripts, slices -/
theorem atI_dv {ds : List D} {xs : List V} {i : Int} {d : D} (h : DvA K H ds xs) (e : atI ds i = some d) : ∃ v, atI xs i = some v ∧ Dv K H d v := by
  unfold atI at e ⊢
  rw [← h.length]
  cases q : ixN ds.length i with
  | none => rw [q] at e; cases e
  | some j =>
    rw [q] at e
    exact h.get e
def rItem : DR2 := fun x y S R => match x, y with
  | .tup ds, .int i => ∃ d, atI ds i = some d ∧ R d S
  | .ref a, .int i => ∃ ds d, rdL S a ds ∧ atI ds i = some d ∧ R d S
  | .str z, .int i => z.length ≤ sizeLine ∧ ∃ c, atI z.cps.toList i = some c ∧ R (.str ⟨#[c]⟩) S
  | _, _ => False
theorem ix_D : IxR X (l2 X.K rItem) := by
  intro value slice pins s σ H x y v u Q I rx ry ⟨dx, dy, S, R, hx, hy, hs, q, le⟩ hsl
  cases dx with
  | tup ds =>
    cases dy with
    | int i =>
      cases hy
      obtain ⟨a, xs, e1, h1, g1⟩ := hx
      obtain ⟨d, e2, q⟩ := q
      obtain ⟨w, e3, g3⟩ := atI_dv g1 e2
      exact ix_tup value slice pins s σ H _ _ v u Q I rx ry ⟨a, xs, i, w, e1, rfl, h1, e3, fin_v le hs g3 q⟩ hsl
    | _ => exact False.elim q
  | ref a =>
    cases dy with
    | int i =>
      cases hy
      obtain ⟨ds, d, rd, e2, q⟩ := q
      obtain ⟨xs, h1, g1⟩ := hs.rd rd
      obtain ⟨w, e3, g3⟩ := atI_dv g1 e2
      exact ix_list value slice pins s σ H _ _ v u Q I rx ry ⟨a, xs, i, w, hx, rfl, h1, e3, fin_v le hs g3 q⟩ hsl
    | _ => exact False.elim q
  | str z =>
    cases dy with
    | int i =>
      cases hx
      cases hy
      obtain ⟨hz, c, e2, q⟩ := q
      exact ix_str value slice pins s σ H _ _ v u Q I rx ry ⟨z, i, c, rfl, rfl, hz, e2, fin_str le hs q⟩ hsl
    | _ => exact False.elim q
  | _ => exact False.elim q
theorem de_ix {a b : Expr} {ta tb : DTE} {pos : Pos} (ha : DE X a ta) (hb : DE X b tb) (hs : PlainIx b := by intro _ _; rfl) : DE X (.Subscript a b pos) (dOp rItem ta tb) := imE (pe_ix ix_D ha hb hs) fun _ _ _ => op_lift
abbrev DTO := DSt → DS → (Option Int → DS → Prop) → Prop
def lO (K : PySem.W.Frag) (t : DTO) : L2.St → Hp → (Option Int → Hp → Prop) → Prop := fun σ H Q => ∃ τ S R, RelS K H τ σ ∧ HS K H S ∧ t τ S R ∧ ∀ o H' S', TupLe K H H' → HS K H' S' → R o S' → Q o H'
abbrev DO' (X : Cx) (e : Option Expr) (t : DTO) : Prop := PO X e (lO X.K t)
def dNoPart : DTO := fun _ S R => R none S
def dPart (t : DTE) : DTO := fun τ S R => t τ S fun d S1 => ∃ i, d = .int i ∧ R (some i) S1
theorem do_none : DO' X none dNoPart := ⟨fun p s σ H Q I ⟨τ, S, R, r, hs, q, le⟩ => po_none.run p s σ H Q I (le none H S .refl hs q)⟩
theorem do_some {e : Expr} {te : DTE} (he : DE X e te) : DO' X (some e) (dPart te) := ⟨fun p s σ H Q I ⟨τ, S, R, r, hs, q, le⟩ => (po_some he).run p s σ H Q I
  ⟨τ, S, _, r, hs, q, fun v H1 d S1 t1 hs1 h1 ⟨i, e1, q1⟩ => by subst e1; exact ⟨i, h1, le _ H1 S1 t1 hs1 q1⟩⟩⟩
def cutD (xs : List D) (lo hi : Option Int) : List D := (xs.drop (HT.sIx xs.length 0 lo)).take (HT.sIx xs.length xs.length hi - HT.sIx xs.length 0 lo)
theorem cut_dv {ds : List D} {xs : List V} (h : DvA K H ds xs) (lo hi : Option Int) : DvA K H (cutD ds lo hi) (cutV xs lo hi) := by
  unfold cutD cutV
  rw [h.length]
  exact (h.drop _).take _
def rSlice : D → Option Int → Option Int → DS → DK → Prop := fun x lo hi S R => match x with
  | .tup ds => R (.tup (cutD ds lo hi)) S
  | .ref a => ∃ ds, rdL S a ds ∧ ∀ p, Fresh S p → R (.ref p) (S.set p (.lst (cutD ds lo hi)))
  | .str z => z.length ≤ sizeLine ∧ R (.str (cutS z lo hi)) S
  | _ => False
def l3 (K : PySem.W.Frag) (r : D → Option Int → Option Int → DS → DK → Prop) : V → Option Int → Option Int → Hp → VK → Prop := fun x lo hi H Q => ∃ dx S R, Dv K H dx x ∧ HS K H S ∧ r dx lo hi S R ∧ LeE K H R Q
theorem cut_all {xs : List V} {lo hi : Option Int} (h : HT.sIx xs.length 0 lo = 0 ∧ HT.sIx xs.length xs.length hi = xs.length) : cutV xs lo hi = xs := by
  unfold cutV
  rw [h.1, h.2]
  simp
theorem sl_D : SlR X (l3 X.K rSlice) := by
  intro pins s σ H x v vl vu lo hi sl Q I rx hs1 pl pu ⟨dx, S, R, hx, hs, q, le⟩
  cases dx with
  | tup ds =>
    obtain ⟨a, xs, e1, h1, g1⟩ := hx
    refine sl_tupA pins s σ H _ v vl vu lo hi sl Q I rx hs1 pl pu ⟨a, xs, e1, h1, fun w => ?_, fun _ => new_tup le hs (cut_dv g1 lo hi) q⟩
    have g2 := cut_dv g1 lo hi
    rw [cut_all w] at g2
    exact fin_v (d := .tup (cutD ds lo hi)) le hs ⟨a, xs, rfl, h1, g2⟩ q
  | ref a =>
    obtain ⟨ds, rd, q⟩ := q
    obtain ⟨xs, h1, g1⟩ := hs.rd rd
    exact sl_list pins s σ H _ v vl vu lo hi sl Q I rx hs1 pl pu ⟨a, xs, hx, h1, new_lst le hs (cut_dv g1 lo hi) q⟩
  | str z =>
    cases hx
    exact sl_str pins s σ H _ v vl vu lo hi sl Q I rx hs1 pl pu ⟨z, rfl, q.1, fin_str le hs q.2⟩
  | _ => exact False.elim q
def dSlice (te : DTE) (tl th : DTO) : DTE := fun τ S R => te τ S fun x S1 => tl τ S1 fun l S2 => th τ S2 fun u S3 => rSlice x l u S3 R
theorem de_slice {e : Expr} {lo hi : Option Expr} {te : DTE} {tl th : DTO} {pos p2 : Pos} (he : DE X e te) (hl : DO' X lo tl) (hu : DO' X hi th) : DE X (.Subscript e (.Slice lo hi none p2) pos) (dSlice te tl th) := imE (pe_slice sl_D he hl hu) fun σ H Q ⟨τ, S, R, r, hs, q, le⟩ =>
  ⟨τ, S, _, r, hs, q, fun v H1 d S1 t1 hs1 h1 q1 => ⟨τ, S1, _, r.mono t1, hs1, q1, fun l H2 S2 t2 hs2 q2 => ⟨τ, S2, _, (r.mono t1).mono t2, hs2, q2, fun u H3 S3 t3 hs3 q3 =>
    ⟨d, S3, R, (h1.mono t2).mono t3, hs3, q3, le.then ((t1.trans t2).trans t3)⟩⟩⟩⟩
end
end DL

/-! DL5: == and repr of whole data, calls of built-ins, methods -/
namespace DL
open PySem PySem.Spec PyProof.Rows L2

/-! ### data as a whole -/
def keyP : Key → PyData
  | .inl i => .int i
  | .inr x => .str x
mutual
/-- d, with all that the store tells of what stands in it -/
inductive Sn (S : DS) : D → PyData → Prop
  | non : Sn S .non .none
  | bl (b : Bool) : Sn S (.bl b) (.bool b)
  | int (i : Int) : Sn S (.int i) (.int i)
  | str (x : Str) : Sn S (.str x) (.str x)
  | tup {ds : List D} {ps : List PyData} : SnA S ds ps → Sn S (.tup ds) (.tuple ps)
  | lst {a : Addr} {ds : List D} {ps : List PyData} : rdL S a ds → SnA S ds ps → Sn S (.ref a) (.list ps)
  | dict {a : Addr} {kvs : List (Key × D)} {ps : List (PyData × PyData)} : S a = some (.dK kvs) → SnK S kvs ps → Sn S (.ref a) (.dict ps)
inductive SnA (S : DS) : List D → List PyData → Prop
  | nil : SnA S [] []
  | cons {d : D} {ds : List D} {p : PyData} {ps : List PyData} : Sn S d p → SnA S ds ps → SnA S (d :: ds) (p :: ps)
inductive SnK (S : DS) : List (Key × D) → List (PyData × PyData) → Prop
  | nil : SnK S [] []
  | cons {k : Key} {d : D} {ds : List (Key × D)} {p : PyData} {ps : List (PyData × PyData)} : Sn S d p → SnK S ds ps → SnK S ((k, d) :: ds) ((keyP k, p) :: ps)
end
mutual
def noL : PyData → Bool
  | .list _ => false
  | .tuple xs => noLs xs
  | .dict ks => noLk ks
  | _ => true
def noLs : List PyData → Bool
  | [] => true
  | x :: xs => noL x && noLs xs
def noLk : List (PyData × PyData) → Bool
  | [] => true
  | (_, x) :: xs => noL x && noLk xs
end
section
variable {X : Cx} {pins : List (Addr × Obj)} {σ : L2.St} {H : Hp} {s : Shared} {S : DS}
abbrev OffS (as : List Addr) : Prop := ∀ b ∈ as, (b == sysModules) = false
theorem reads_keys {h : Heap} {P : Program} {w : World} : ∀ {es : List DictEntry} {vs : List (Key × Value)}, Pairs (mixKind P w) es vs → ReadsAll h (es.map (·.key)) (vs.map fun kv => keyP kv.1) []
  | _, _, .nil => .nil
  | e :: _, (k, v) :: _, .cons h1 h2 r => by
    have r1 := reads_keys (h := h) r
    rw [List.map_cons, List.map_cons]
    refine ReadsAll.cons (as := []) (bs := []) ?_ r1
    rcases keyIs_shape (show keyIs k e.key = true from h1) with ⟨i, t, e1, e2⟩ | ⟨x, t, e1, e2⟩
    · rw [e2, show keyP ((k, v) : Key × Value).1 = .int i by show keyP k = _; rw [e1]; rfl]
      exact .int i t
    · rw [e2, show keyP ((k, v) : Key × Value).1 = .str x by show keyP k = _; rw [e1]; rfl]
      exact .str x t
theorem pairs_vals {P : Program} {w : World} : ∀ {l : List DictEntry} {vs : List (Key × Value)}, Pairs (mixKind P w) l vs → l.map (·.val) = vs.map (·.2)
  | _, _, .nil => rfl
  | _, _, .cons _ b c => by rw [List.map_cons, List.map_cons, b, pairs_vals c]
mutual
theorem Sn.reads (I : Inv X pins σ H s) (hs : HS X.K H S) : ∀ (p : PyData) (d : D) (v : V) (u : Value), Sn S d p → Dv X.K H d v → RelV v u → ∃ as, Reads s.heap u p as ∧ (noL p = true → OffS as)
  | .none, _, _, _, .non, h, r => by
    cases h
    cases r
    exact ⟨_, .none, fun _ b z => nomatch z⟩
  | .bool _, _, _, _, .bl b, h, r => by
    cases h
    cases r
    exact ⟨_, .bool b, fun _ b z => nomatch z⟩
  | .int _, _, _, _, .int i, h, r => by
    cases h
    obtain ⟨t, rfl⟩ := r
    exact ⟨_, .int i t, fun _ b z => nomatch z⟩
  | .str _, _, _, _, .str x, h, r => by
    cases h
    obtain ⟨t, rfl⟩ := r
    exact ⟨_, .str x t, fun _ b z => nomatch z⟩
  | .tuple ps, _, _, _, .tup q, ⟨a, xs, e1, h1, h2⟩, r => by
    subst e1
    cases r
    obtain ⟨its, rv, ⟨o, ho, hc, n, hd⟩, _⟩ := I.tuple h1
    obtain ⟨as, q1, q2⟩ := Sn.readsAll I hs ps _ _ its q h2 rv
    exact ⟨_, .tuple ho hc hd q1, fun z => q2 z⟩
  | .list ps, _, _, _, .lst rd q, h, r => by
    cases h
    cases r
    obtain ⟨xs, h1, h2⟩ := hs.rd rd
    obtain ⟨its, rv, ⟨o, n, ho, hc, _, hd⟩, _⟩ := I.list h1
    obtain ⟨as, q1, q2⟩ := Sn.readsAll I hs ps _ _ its q h2 rv
    exact ⟨_, .list ho hc hd q1, fun z => by cases z⟩
  | .dict ps, _, _, _, .dict e q, h, r => by
    cases h
    cases r
    obtain ⟨ks, h1, h2⟩ := hs _ _ e
    obtain ⟨_, ns, vs, kv, o, es, ep, ho, hx, hd, _, pr, _⟩ := I.hok _ _ h1
    obtain ⟨as, e1, q1, q2⟩ := Sn.readsK I hs ps _ ks vs q h2 kv
    have rk := reads_keys (h := s.heap) pr
    have ev := pairs_vals pr
    rw [e1] at rk
    refine ⟨_, .dict ho hx.1 hd rk (by rw [ev]; exact q1), fun z b hb => ?_⟩
    rcases List.mem_cons.mp hb with hb | hb
    · rw [hb]
      exact ns
    · exact q2 z b (by simpa using hb)
theorem Sn.readsAll (I : Inv X pins σ H s) (hs : HS X.K H S) : ∀ (ps : List PyData) (ds : List D) (vs : List V) (us : List Value), SnA S ds ps → DvA X.K H ds vs → Vals vs us → ∃ as, ReadsAll s.heap us ps as ∧ (noLs ps = true → OffS as)
  | [], _, _, _, .nil, h, r => by
    have h : _ = [] := h
    subst h
    cases r
    exact ⟨_, .nil, fun _ b z => nomatch z⟩
  | p :: ps, _, _, _, .cons q qs, ⟨v, vs, e, h, hh⟩, r => by
    subst e
    cases r with
    | cons r1 r2 =>
      obtain ⟨as, g1, g2⟩ := Sn.reads I hs p _ _ _ q h r1
      obtain ⟨bs, k1, k2⟩ := Sn.readsAll I hs ps _ _ _ qs hh r2
      refine ⟨_, .cons g1 k1, fun z b hb => ?_⟩
      obtain ⟨z1, z2⟩ := (Bool.and_eq_true _ _).mp (show (noL p && noLs ps) = true from z)
      exact (List.mem_append.mp hb).elim (g2 z1 b) (k2 z2 b)
theorem Sn.readsK (I : Inv X pins σ H s) (hs : HS X.K H S) : ∀ (ps : List (PyData × PyData)) (ds : List (Key × D)) (vs : List (Key × V)) (us : List (Key × Value)), SnK S ds ps → KvD X.K H ds vs → KV vs us →
    ∃ as, us.map (fun kv => keyP kv.1) = ps.map (·.1) ∧ ReadsAll s.heap (us.map (·.2)) (ps.map (·.2)) as ∧ (noLk ps = true → OffS as)
  | [], _, _, _, .nil, h, r => by
    cases h
    cases r
    exact ⟨_, rfl, .nil, fun _ b z => nomatch z⟩
  | (_, p) :: ps, _, _, _, .cons q qs, h, r => by
    cases h with
    | cons h hh =>
      cases r with
      | cons r1 r2 =>
        obtain ⟨as, g1, g2⟩ := Sn.reads I hs p _ _ _ q h.2 r1.2
        obtain ⟨bs, k0, k1, k2⟩ := Sn.readsK I hs ps _ _ _ qs hh r2
        refine ⟨_, ?_, .cons g1 k1, fun z b hb => ?_⟩
        · rw [List.map_cons, List.map_cons, k0, ← r1.1, ← h.1]
        · obtain ⟨z1, z2⟩ := (Bool.and_eq_true _ _).mp (show (noL p && noLk ps) = true from z)
          exact (List.mem_append.mp hb).elim (g2 z1 b) (k2 z2 b)
end
end

/-! ### ==, != -/
section
variable {X : Cx}
def rEqP (neg : Bool) : DR2 := fun x y S R => ∃ p q, Sn S x p ∧ Sn S y q ∧ p.canLay0 = true ∧ q.canLay0 = true ∧ min p.depth q.depth ≤ 150 ∧ R (.bl (if neg then !PyData.eqv p q else PyData.eqv p q)) S
theorem op_EqP (hu : X.A.units + 200 < cLine) : OpR X (compareOp .Eq) (l2 X.K (rEqP false)) := by
  intro pins s σ H x y v u Q I rx ry ⟨dx, dy, S, R, hx, hy, hs, ⟨p, q, h1, h2, c1, c2, hd, k⟩, le⟩
  obtain ⟨as, r1, _⟩ := h1.reads I hs _ _ _ _ hx rx
  obtain ⟨bs, r2, _⟩ := h2.reads I hs _ _ _ _ hy ry
  exact PySem.SeqAt.compareEq_reads r1 r2 c1 c2 (by omega) ⟨.bl _, H, I, rfl, fin_b le hs k⟩
theorem op_NeP (hu : X.A.units + 200 < cLine) : OpR X (compareOp .NotEq) (l2 X.K (rEqP true)) := by
  intro pins s σ H x y v u Q I rx ry ⟨dx, dy, S, R, hx, hy, hs, ⟨p, q, h1, h2, c1, c2, hd, k⟩, le⟩
  obtain ⟨as, r1, _⟩ := h1.reads I hs _ _ _ _ hx rx
  obtain ⟨bs, r2, _⟩ := h2.reads I hs _ _ _ _ hy ry
  exact PySem.SeqAt.compareNe_reads r1 r2 c1 c2 (by omega) ⟨.bl _, H, I, rfl, fin_b le hs k⟩
/-- two plain values of one kind, or None -/
def sEq : D → D → Option Bool
  | .int i, .int j => some (i == j)
  | .str i, .str j => some (decide (i = j))
  | .bl i, .bl j => some (i == j)
  | .non, .non => some true
  | _, _ => none
def rEqS (neg : Bool) : DR2 := fun x y S R => ∃ b, sEq x y = some b ∧ R (.bl (if neg then !b else b)) S
theorem sEq_v {K : PySem.W.Frag} {H : Hp} {x y : D} {v w : V} {b : Bool} (e : sEq x y = some b) (h : Dv K H x v) (g : Dv K H y w) : scal v w = true ∧ decide (v = w) = b := by
  unfold sEq at e
  split at e
  · cases h; cases g; cases e; exact ⟨rfl, dec_int⟩
  · cases h; cases g; cases e; exact ⟨rfl, by simp⟩
  · cases h; cases g; cases e; exact ⟨rfl, dec_bl⟩
  · cases h; cases g; cases e; exact ⟨rfl, by simp⟩
  · cases e
theorem op_EqS : OpR X (compareOp .Eq) (l2 X.K (rEqS false)) := by
  intro pins s σ H x y v u Q I rx ry ⟨dx, dy, S, R, hx, hy, hs, ⟨b, e, k⟩, le⟩
  obtain ⟨e1, e2⟩ := sEq_v e hx hy
  exact op_eq pins s σ H _ _ v u Q I rx ry ⟨e1, by rw [e2]; exact fin_b le hs k⟩
theorem op_NeS : OpR X (compareOp .NotEq) (l2 X.K (rEqS true)) := by
  intro pins s σ H x y v u Q I rx ry ⟨dx, dy, S, R, hx, hy, hs, ⟨b, e, k⟩, le⟩
  obtain ⟨e1, e2⟩ := sEq_v e hx hy
  exact op_ne pins s σ H _ _ v u Q I rx ry ⟨e1, by rw [e2]; exact fin_b le hs k⟩
theorem OpR.or {f : Value → Value → Sem Value} {r r' : DR2} (h : OpR X f (l2 X.K r)) (h' : OpR X f (l2 X.K r')) : OpR X f (l2 X.K fun x y S R => r x y S R ∨ r' x y S R) := by
  intro pins s σ H x y v u Q I rx ry ⟨dx, dy, S, R, hx, hy, hs, q, le⟩
  rcases q with q | q
  · exact h pins s σ H x y v u Q I rx ry ⟨dx, dy, S, R, hx, hy, hs, q, le⟩
  · exact h' pins s σ H x y v u Q I rx ry ⟨dx, dy, S, R, hx, hy, hs, q, le⟩
abbrev rEq (neg : Bool) : DR2 := fun x y S R => rEqS neg x y S R ∨ rEqP neg x y S R
theorem op_Eq (hu : X.A.units + 200 < cLine) : OpR X (compareOp .Eq) (l2 X.K (DL.rEq false)) := OpR.or op_EqS (op_EqP hu)
theorem op_Ne (hu : X.A.units + 200 < cLine) : OpR X (compareOp .NotEq) (l2 X.K (DL.rEq true)) := OpR.or op_NeS (op_NeP hu)
end

/-! ### calls of built-ins -/
section
variable {X : Cx} {x : Str} {p pos : Pos} {e : Expr} {es : List Expr} {t : DTA} {id T : String}
abbrev DRC := List D → DS → DK → Prop
def lC (K : PySem.W.Frag) (r : DRC) : List V → Hp → VK → Prop := fun vs H Q => ∃ ds S R, DvA K H ds vs ∧ HS K H S ∧ r ds S R ∧ LeE K H R Q
def dCB (r : DRC) (t : DTA) : DTE := fun τ S R => t τ S fun ds S1 => r ds S1 R
theorem cb_lift {K : PySem.W.Frag} {r : DRC} {σ : L2.St} {H : Hp} {Q : VK} (h : lE K (dCB r t) σ H Q) : tCB (lC K r) (lA K t) σ H Q := by
  obtain ⟨τ, S, R, r0, hs, q, le⟩ := h
  exact ⟨τ, S, _, r0, hs, q, fun vs H1 ds S1 t1 hs1 h1 q1 => ⟨ds, S1, R, h1, hs1, q1, le.then t1⟩⟩
theorem de_callB {r : DRC} (hc : CallR X (.builtin id) (lC X.K r)) (hg : Gl X x) (hm : X.mg x = none) (hv : bootBuiltins x = some (.builtin id)) (ha : DA X (e :: es) t) (hn : x ≠ "__name__" := by decide) (hdb : (x == ("__debug__" : Str)) = false := by decide)
    (he : starEach (e :: es) X.env = (false, eval e X.env) :: starEach es X.env := by rfl) (hpl : (backTo pos (starEach es X.env)).any (·.1) = false := by rfl) : DE X (.Call (.Name x p) (e :: es) [] pos) (dCB r t) := imE (pe_callB hc hg hm hv ha hn hdb he hpl) fun _ _ _ => cb_lift
theorem de_callTy {r : DRC} (hc : CallR X (.type T) (lC X.K r)) (hg : Gl X x) (hm : X.mg x = none) (hv : bootBuiltins x = some (.type T)) (ha : DA X (e :: es) t) (hn : x ≠ "__name__" := by decide) (hdb : (x == ("__debug__" : Str)) = false := by decide)
    (he : starEach (e :: es) X.env = (false, eval e X.env) :: starEach es X.env := by rfl) (hpl : (backTo pos (starEach es X.env)).any (·.1) = false := by rfl) : DE X (.Call (.Name x p) (e :: es) [] pos) (dCB r t) := imE (pe_callTy hc hg hm hv ha hn hdb he hpl) fun _ _ _ => cb_lift
theorem v1 {K : PySem.W.Frag} {H : Hp} {d : D} {vs : List V} (h : DvA K H [d] vs) : ∃ v, vs = [v] ∧ Dv K H d v := by
  obtain ⟨v, vr, e, h1, h2⟩ := h
  have h2 : vr = [] := h2
  subst h2
  exact ⟨v, e, h1⟩
theorem v2 {K : PySem.W.Frag} {H : Hp} {d d' : D} {vs : List V} (h : DvA K H [d, d'] vs) : ∃ v w, vs = [v, w] ∧ Dv K H d v ∧ Dv K H d' w := by
  obtain ⟨v, vr, e, h1, h2⟩ := h
  obtain ⟨w, e2, h3⟩ := v1 h2
  subst e2
  exact ⟨v, w, e, h1, h3⟩
def rLen : DRC := fun ds S R => match ds with
  | [.str x] => x.length ≤ sizeLine ∧ R (.int x.length) S
  | [.tup xs] => R (.int xs.length) S
  | [.ref a] => ∃ xs, rdL S a xs ∧ R (.int xs.length) S
  | _ => False
theorem call_Len : CallR X (.builtin "len") (lC X.K rLen) := by
  intro pins s σ H vs us Q I r ⟨ds, S, R, h, hs, q, le⟩
  unfold rLen at q
  split at q
  · next x =>
    obtain ⟨v, e, h1⟩ := v1 h
    cases h1
    subst e
    exact call_len pins s σ H _ us Q I r ⟨_, x.length, rfl, ⟨q.1, rfl⟩, fin_int le hs q.2⟩
  · next xs =>
    obtain ⟨v, e, a, ys, e1, h1, h2⟩ := v1 h
    subst e e1
    exact call_len pins s σ H _ us Q I r ⟨_, xs.length, rfl, .inr ⟨ys, h1, h2.length⟩, fin_int le hs q⟩
  · next a =>
    obtain ⟨v, e, h1⟩ := v1 h
    cases h1
    subst e
    obtain ⟨xs, rd, q⟩ := q
    obtain ⟨ys, h1, h2⟩ := hs.rd rd
    exact call_len pins s σ H _ us Q I r ⟨_, xs.length, rfl, .inl ⟨ys, h1, h2.length⟩, fin_int le hs q⟩
  · exact q.elim
/-- the name of a value's type -/
inductive DTy (S : DS) : D → String → Prop
  | non : DTy S .non "NoneType"
  | bl {b : Bool} : DTy S (.bl b) "bool"
  | int {i : Int} : DTy S (.int i) "int"
  | str {x : Str} : DTy S (.str x) "str"
  | tup {ds : List D} : DTy S (.tup ds) "tuple"
  | lst {a : Addr} {ds : List D} : S a = some (.lst ds) → DTy S (.ref a) "list"
  | dK {a : Addr} {kvs : List (Key × D)} : S a = some (.dK kvs) → DTy S (.ref a) "dict"
  | dT {a : Addr} {kvs : List (List Key × D)} : S a = some (.dT kvs) → DTy S (.ref a) "dict"
theorem DTy.tyx {K : PySem.W.Frag} {H : Hp} {S : DS} {d : D} {n : String} {v : V} (t : DTy S d n) (hs : HS K H S) (h : Dv K H d v) : TyX K H v (.type n) := by
  cases t with
  | non => cases h; exact .base .non
  | bl => cases h; exact .base (.bl _)
  | int => cases h; exact .base (.int _)
  | str => cases h; exact .base (.str _)
  | tup =>
    obtain ⟨a, xs, e, h1, _⟩ := h
    subst e
    rcases h1 with (h1 | ⟨o, h1⟩) | ⟨o, its, n, h1, h2, _⟩
    · exact .base (.tup h1)
    · exact .fTuple h1
    · exact .kTuple h1 h2
  | lst e =>
    cases h
    obtain ⟨xs, h1, _⟩ := hs _ _ e
    exact .base (.lst h1)
  | dK e =>
    cases h
    obtain ⟨xs, h1, _⟩ := hs _ _ e
    exact .base (.dK h1)
  | dT e =>
    cases h
    obtain ⟨xs, h1, _⟩ := hs _ _ e
    exact .base (.dT h1)
/-- isinstance(x, T) -/
def rIsi : DRC := fun ds S R => match ds with
  | [x, .ty T] => ∃ n b, DTy S x n ∧ kitB n T = some b ∧ R (.bl b) S
  | _ => False
theorem call_Isi : CallR X (.builtin "isinstance") (lC X.K DL.rIsi) := by
  intro pins s σ H vs us Q I r ⟨ds, S, R, h, hs, q, le⟩
  unfold DL.rIsi at q
  split at q
  · next x T =>
    obtain ⟨v, w, e, h1, h2⟩ := v2 h
    cases h2
    subst e
    obtain ⟨n, b, t, k, q⟩ := q
    exact call_isi pins s σ H _ us Q I r ⟨_, _, _, _, b, rfl, .ty T, t.tyx hs h1, kit_ty k, fin_b le hs q⟩
  · exact q.elim
def rAbs : DRC := fun ds S R => match ds with
  | [.int i] => R (.int (if i < 0 then -i else i)) S
  | _ => False
theorem call_Abs : CallR X (.builtin "abs") (lC X.K rAbs) := by
  intro pins s σ H vs us Q I r ⟨ds, S, R, h, hs, q, le⟩
  unfold rAbs at q
  split at q
  · next i =>
    obtain ⟨v, e, h1⟩ := v1 h
    cases h1
    subst e
    exact call_abs pins s σ H _ us Q I r ⟨i, rfl, fin_int le hs q⟩
  · exact q.elim
def rMin : DRC := fun ds S R => match ds with
  | [.int i, .int j] => R (.int (if j < i then j else i)) S
  | _ => False
theorem call_Min (hc : X.calm = true) : CallR X (.builtin "min") (lC X.K rMin) := by
  intro pins s σ H vs us Q I r ⟨ds, S, R, h, hs, q, le⟩
  unfold rMin at q
  split at q
  · next i j =>
    obtain ⟨v, w, e, h1, h2⟩ := v2 h
    cases h1
    cases h2
    subst e
    exact call_min2 hc pins s σ H _ us Q I r ⟨i, j, rfl, fin_int le hs q⟩
  · exact q.elim
/-- list(x), tuple(x) of a tuple or a list -/
def seqOf (S : DS) : D → List D → Prop
  | .tup ds, xs => xs = ds
  | .ref a, xs => rdL S a xs
  | _, _ => False
theorem seqOf.at {K : PySem.W.Frag} {H : Hp} {S : DS} {d : D} {xs : List D} {v : V} (h : seqOf S d xs) (hs : HS K H S) (hv : Dv K H d v) : ∃ a ys, v = .ref a ∧ (SqL K H a ys ∨ SqT K H a ys) ∧ DvA K H xs ys := by
  cases d with
  | tup ds =>
    obtain ⟨a, ys, e, h1, h2⟩ := hv
    have h : xs = ds := h
    subst h
    exact ⟨a, ys, e, .inr h1, h2⟩
  | ref a =>
    obtain ⟨ys, h1, h2⟩ := hs.rd (show rdL S a xs from h)
    exact ⟨a, ys, hv, .inl h1, h2⟩
  | _ => exact False.elim h
def rList : DRC := fun ds S R => ∃ d xs, ds = [d] ∧ seqOf S d xs ∧ ∀ p, Fresh S p → R (.ref p) (S.set p (.lst xs))
theorem call_List : CallR X (.type "list") (lC X.K rList) := by
  intro pins s σ H vs us Q I r ⟨ds, S, R, h, hs, ⟨d, xs, e, h1, q⟩, le⟩
  subst e
  obtain ⟨v, e, h2⟩ := v1 h
  subst e
  obtain ⟨a, ys, e1, h3, h4⟩ := h1.at hs h2
  exact call_list_of pins s σ H _ us Q I r ⟨a, ys, by rw [e1], h3, new_lst le hs h4 q⟩
def rTuple : DRC := fun ds S R => ∃ d xs, ds = [d] ∧ seqOf S d xs ∧ R (.tup xs) S
theorem call_Tuple : CallR X (.type "tuple") (lC X.K rTuple) := by
  intro pins s σ H vs us Q I r ⟨ds, S, R, h, hs, ⟨d, xs, e, h1, q⟩, le⟩
  subst e
  obtain ⟨v, e, h2⟩ := v1 h
  subst e
  obtain ⟨a, ys, e1, h3, h4⟩ := h1.at hs h2
  refine call_tuple_of pins s σ H _ us Q I r ⟨a, ys, by rw [e1], ?_⟩
  rcases h3 with h3 | h3
  · exact .inl ⟨h3, new_tup le hs h4 q⟩
  · exact .inr ⟨h3, fin_v (d := .tup xs) le hs ⟨a, ys, rfl, h3, h4⟩ q⟩
def rStr : DRC := fun ds S R => match ds with
  | [.int i] => i.natAbs.log2 < 1920 ∧ R (.str (toString i)) S
  | _ => False
theorem call_Str : CallR X (.type "str") (lC X.K rStr) := by
  intro pins s σ H vs us Q I r ⟨ds, S, R, h, hs, q, le⟩
  unfold rStr at q
  split at q
  · next i =>
    obtain ⟨v, e, h1⟩ := v1 h
    cases h1
    subst e
    exact call_str_int pins s σ H _ us Q I r ⟨i, rfl, q.1, fin_str le hs q.2⟩
  · exact q.elim
/-- repr(x): the text of x as a whole -/
def rRepr : DRC := fun ds S R => ∃ d p, ds = [d] ∧ Sn S d p ∧ p.showable = true ∧ p.shown.length ≤ sizeLine ∧ p.depth ≤ 150 ∧ (p.hasDict = true → noL p = true) ∧ R (.str p.shown) S
theorem call_Repr (hg : X.A.guards = some []) (hu : X.A.units + 200 < cLine) : CallR X (.builtin "repr") (lC X.K rRepr) := by
  intro pins s σ H vs us Q I r ⟨ds, S, R, h, hs, ⟨d, p, e, h1, h2, h3, h4, h5, q⟩, le⟩
  subst e
  obtain ⟨v, e, g⟩ := v1 h
  subst e
  obtain ⟨u, rfl, ru⟩ := vals1 r
  obtain ⟨as, r1, r2⟩ := h1.reads I hs _ _ _ _ g ru
  have gen : ∀ b, u = .ref b → wpAny (model X.prog X.w) X.A (call (.builtin "repr") [u]) (EP X pins σ Q) X.xe s := fun b e => by
    subst e
    refine repr_of_reads' r1 h2 (fun z m => ?_) hg (by omega) (fun _ _ e => e) (fun h' u' tk hk => ?_) h3
    · have z2 := r2 (h5 z) _ m
      simp at z2
    · exact ⟨.str _, H, I.kept hk, ⟨_, rfl⟩, fin_str le hs q⟩
  cases h1 with
  | non =>
    cases g; cases ru
    exact PySem.P.repr_of_none ⟨.str _, H, I.tok _, ⟨_, rfl⟩, fin_str le hs q⟩
  | bl b =>
    cases g; cases ru
    exact PySem.P.repr_of_bool ⟨.str _, H, I.tok _, ⟨_, rfl⟩, fin_str le hs q⟩
  | int i =>
    cases g
    obtain ⟨t, rfl⟩ := ru
    exact PySem.P.repr_of_int (by simpa [PyData.showable] using h2) ⟨.str _, H, I.tok _, ⟨_, rfl⟩, fin_str le hs q⟩
  | str x =>
    cases g
    obtain ⟨t, rfl⟩ := ru
    exact PySem.P.repr_of_str ⟨.str _, H, I.tok _, ⟨_, rfl⟩, fin_str le hs q⟩ h3
  | tup _ =>
    obtain ⟨a, xs, e, _⟩ := g
    subst e
    exact gen _ ru
  | lst _ _ => cases g; exact gen _ ru
  | dict _ _ => cases g; exact gen _ ru
end
end DL

/-! DL6: defs, their calls, the law's end; the guards are told -/
namespace DL
open PySem PySem.Spec PyProof.Rows L2

/-! ### a def's promise where nothing shows itself around it -/
structure FnG (P : Program) (w : World) (K : PySem.W.Frag) (mg : Str → Option Value) (base : Heap) (CX : CXT) (k : Nat) (f : Addr) (fd : FuncData) (ps : List Str) (sp : Sp) : Prop where
  len : ∀ vs H Q E, sp vs H Q E → vs.length = ps.length
  go : ∀ (A : Around) (outer : List Env) (s : Shared) (H : Hp) (args : Args) (us : List Value) (vs : List V) (Q : VK) (E : XK), Room k A → A.guards = some [] → Env0 P w K mg base A outer s H →
    BindsTo s fd args (ps.zip us) → Vals vs us → sp vs H Q E → codeAny (model P w) A (.call (.ref f) args) (CR CX outer P w H s Q E) s
section
variable {P : Program} {w : World} {K : PySem.W.Frag} {mg : Str → Option Value} {base : Heap} {CX : CXT} {j k : Nat} {f : Addr} {fd : FuncData} {ps : List Str} {sp : Sp}
theorem FnG.up (F : FnG P w K mg base CX j f fd ps sp) (h : j ≤ k) : FnG P w K mg base CX k f fd ps sp := ⟨F.len, fun A o s H ar us vs Q E r => F.go A o s H ar us vs Q E (r.mono h)⟩
/-- by the body -/
theorem fnG_of {x qual : Str} {st : Stmt} {N : List Str} (F : Fun K x qual st f fd) (Sc : FnScope N ps (defScope st)) (len : ∀ vs H Q E, sp vs H Q E → vs.length = ps.length)
    (hb : ∀ (cdv : Value) (A : Around) (outer : List Env) (s : Shared) (H : Hp) (vs : List V) (Q : VK) (E : XK), Room k (A.deeper (envOfC qual (defScope st) s.heap.objs.size f cdv)) → (A.deeper (envOfC qual (defScope st) s.heap.objs.size f cdv)).guards = some [] → sp vs H Q E →
      ∃ t, PSs (cxOf CX P w K mg base N qual (defScope st) f cdv A outer s H E) (defBody st) t ∧ t { nx := fun _ H' => Q .non H', rt := Q } (L2.start N vs) H) : FnG P w K mg base CX (k + 1) f fd ps sp := by
  obtain ⟨oc, od, kV, doc, pm, an, cdv, ct, osl, e, look, code⟩ := F.ex
  subst e
  refine ⟨len, fun A outer s H args us vs Q E room gd env0 bind rel hsp => ?_⟩
  have inK : K.In s.heap := env0.mod.kin.keeps fun b o z => (env0.bs b o z).1
  have noLim : s.heap.NoLimit := env0.mod.nolimit.keeps fun b o z => (env0.bs b o z).1
  have names : ∀ y ∈ ps.zip us, (defScope st).names.lookup y.1 = some .local ∨ ((defScope st).names.lookup y.1 = some .cell ∧ ((cellsFrom (s.heap.objs.size + 1) (defScope st).names []).lookup y.1).isSome = true) := by
    rintro ⟨n, v⟩ hy
    have hm := Sc.par n (List.of_mem_zip hy).1
    exact hm.elim .inl fun q => .inr ⟨q, PySem.W.cellsFrom_some _ _ _ (.inl q)⟩
  refine codeAny_call_function room.depth (inK _ _ look) rfl Sc.co Sc.gen rfl (PySem.W.codeRec_of inK code) (bind _ _ _ _ (wpAny_newFunctionEnv_cells Sc.kind names ?_))
  rintro env rfl s1 x
  refine ⟨noLim.keeps x.toInCall.keep, codeAny_func ?_⟩
  obtain ⟨t, body, hq⟩ := hb cdv A outer s H vs Q E (room.deeper _) gd hsp
  have I0 := inv_start (CX := CX) (N := N) (qual := qual) (E := E) Sc room.hd env0 (len _ _ _ _ hsp) rel x
  refine wpAny_mono (body.run [] s1 (L2.start N vs) H _ I0 hq) ?_ fun e s' z => z
  intro fl s' z
  cases fl with
  | brk => obtain ⟨_, _, _, q⟩ := z; exact q.elim
  | cont => obtain ⟨_, _, _, q⟩ := z; exact q.elim
  | next =>
    obtain ⟨σ2, H2, J, q⟩ := z
    exact ⟨V.non, H2, J.os, J.bare, J.base, J.hok, rfl, q⟩
  | ret u =>
    obtain ⟨v2, σ2, H2, J, rv, q⟩ := z
    exact ⟨v2, H2, J.os, J.bare, J.base, J.hok, rv, q⟩
end

/-! ### promises over data, where nothing is raised -/
abbrev DSp := List D → DS → DK → Prop
def lSp (K : PySem.W.Frag) (sp : DSp) : Sp := fun vs H Q _ => ∃ ds S R, DvA K H ds vs ∧ HS K H S ∧ sp ds S R ∧ LeE K H R Q
abbrev FnD (P : Program) (w : World) (K : PySem.W.Frag) (mg : Str → Option Value) (base : Heap) (k : Nat) (f : Addr) (fd : FuncData) (ps : List Str) (sp : DSp) : Prop := FnG P w K mg base CX0 k f fd ps (lSp K sp)
/-- the context of such a def's body -/
abbrev bodyX (P : Program) (w : World) (K : PySem.W.Frag) (mg : Str → Option Value) (base : Heap) (N : List Str) (qual : Str) (st : Stmt) (f : Addr) (cdv : Value) (A : Around) (outer : List Env) (s : Shared) (H : Hp) (E : XK) : Cx :=
  (cxOf CX0 P w K mg base N qual (defScope st) f cdv A outer s H E).nox
section
variable {P : Program} {w : World} {K : PySem.W.Frag} {mg : Str → Option Value} {base : Heap} {k : Nat} {f : Addr} {fd : FuncData} {ps N : List Str} {sp : DSp} {x qual : Str} {st : Stmt}
theorem fnD_of {t : DTS} (F : Fun K x qual st f fd) (Sc : FnScope N ps (defScope st)) (len : ∀ ds S R, sp ds S R → ds.length = ps.length)
    (hb : ∀ (cdv : Value) (A : Around) (outer : List Env) (s : Shared) (H : Hp) (E : XK), Room k (bodyX P w K mg base N qual st f cdv A outer s H E).A → (bodyX P w K mg base N qual st f cdv A outer s H E).A.guards = some [] → DSs (bodyX P w K mg base N qual st f cdv A outer s H E) (defBody st) t)
    (read : ∀ ds S R, sp ds S R → t { nx := fun _ S' => R .non S', rt := R } (dstart N ds) S) : FnD P w K mg base (k + 1) f fd ps sp := by
  refine fnG_of F Sc (fun vs H Q E ⟨ds, S, R, h, _, hsp, _⟩ => by rw [← h.length]; exact len ds S R hsp) fun cdv A outer s H vs Q E hr hg ⟨ds, S, R, h, hs, hsp, le⟩ => ?_
  refine ⟨_, (hb cdv A outer s H E hr hg).nox, dstart N ds, S, _, RelS.start' h, hs, read ds S R hsp, ⟨fun σ' H' τ' S' t' _ hs' q => le .non H' .non S' t' hs' rfl q, le, fun _ _ _ _ _ _ _ q => q.elim, fun _ _ _ _ _ _ _ q => q.elim⟩⟩
end

/-! ### calls -/
section
variable {X : Cx} {k : Nat} {f : Addr} {fd : FuncData} {ps : List Str} {sp : DSp} {x : Str} {p pos : Pos} {e : Expr} {es : List Expr} {t : DTA}
def dCall (sp : DSp) (t : DTA) : DTE := fun τ S R => t τ S fun ds S1 => sp ds S1 R
theorem runG {pins : List (Addr × Obj)} {σ : L2.St} {H : Hp} {s : Shared} {Q : VK} {us : List Value} {vs : List V} {args : Args} (F : FnD X.prog X.w X.K X.mg X.base k f fd ps sp) (hr : Room k X.A) (hg : X.A.guards = some []) (hb : BindsTo s fd args (ps.zip us))
    (I : Inv X pins σ H s) (r : Vals vs us) (h : lSp X.K sp vs H Q fun _ _ _ => False) : codeAny (model X.prog X.w) X.A (.call (.ref f) args) (fun r s' => match r with | .ok (.ret u) => EP X pins σ Q u s' | .ok _ => False | .error _ => False) s := by
  refine codeAny_mono (F.go X.A X.stack s H args us vs Q (fun _ _ _ => False) hr hg I.env0 hb r h) fun r s' hq => ?_
  cases r with
  | error e => exact False.elim hq
  | ok fl =>
    cases fl with
    | ret u => exact I.after hq
    | _ => exact False.elim hq
theorem runG' {pins : List (Addr × Obj)} {σ : L2.St} {H : Hp} {s : Shared} {Q : VK} {us ws : List Value} {kw : List (Str × Value)} {vs : List V} (F : FnD X.prog X.w X.K X.mg X.base k f fd ps sp) (hr : Room k X.A) (hg : X.A.guards = some []) (hb : BindsTo s fd ⟨ws, kw⟩ (ps.zip us))
    (I : Inv X pins σ H s) (r : Vals vs us) (h : lSp X.K sp vs H Q fun _ _ _ => False) : wpAny (model X.prog X.w) X.A (call (.ref f) ws kw) (EP X pins σ Q) X.xe s := by
  refine wpAny_call (codeAny_mono (runG F hr hg hb I r h) fun r s' hq => ?_)
  cases r with
  | error e => exact False.elim hq
  | ok fl =>
    cases fl with
    | ret u => exact hq
    | _ => exact False.elim hq
theorem sp_lift {K : PySem.W.Frag} {H : Hp} {Q : VK} {vs : List V} {ds : List D} {S : DS} {R : DK} (h : DvA K H ds vs) (hs : HS K H S) (q : sp ds S R) (le : LeE K H R Q) : lSp K sp vs H Q fun _ _ _ => False := ⟨ds, S, R, h, hs, q, le⟩
/-- f(a, ..): all by place -/
theorem de_call (F : FnD X.prog X.w X.K X.mg X.base k f fd ps sp) (hr : Room k X.A) (gd : X.A.guards = some []) (hg : Gl X x) (hm : X.mg x = some (.ref f)) (hk : PySem.W.keepIn X.K (.ref f) = true) (hb : Binds X.K fd ps [])
    (ha : DA X (e :: es) t) (hdb : (x == ("__debug__" : Str)) = false := by decide) (he : starEach (e :: es) X.env = (false, eval e X.env) :: starEach es X.env := by rfl) (hpl : (backTo pos (starEach es X.env)).any (·.1) = false := by rfl) :
    DE X (.Call (.Name x p) (e :: es) [] pos) (dCall sp t) := by
  refine ⟨fun pins s σ H Q I ⟨τ, S, R, r0, hs, q, le⟩ => ?_⟩
  refine wpAny_Call_Name_kw (ld_glob I hg hm ?_ hdb)
  have hA := ha.run pos pins s σ H (fun vs H1 => lSp X.K sp vs H1 Q fun _ _ _ => False) I ⟨τ, S, _, r0, hs, q, fun vs H1 ds S1 t1 hs1 h1 q1 => sp_lift h1 hs1 q1 (le.then t1)⟩
  refine PySem.W.callWith_K (h₀ := X.base) I.ok.mod.kin hk (thn hA fun us s1 ⟨vs, H1, I1, r, q1⟩ => ⟨I1.kIn, ?_⟩) he hpl
  have hl : (us ++ []).length = ps.length := by rw [List.append_nil, ← r.length]; exact F.len _ _ _ _ q1
  have hB := hb s1 us I1.kIn hl
  rw [List.append_nil] at hB
  exact runG' F hr gd hB I1 r q1
theorem de_call0 (F : FnD X.prog X.w X.K X.mg X.base k f fd ps sp) (hr : Room k X.A) (gd : X.A.guards = some []) (hg : Gl X x) (hm : X.mg x = some (.ref f)) (hk : PySem.W.keepIn X.K (.ref f) = true) (hb : Binds X.K fd ps [])
    (hdb : (x == ("__debug__" : Str)) = false := by decide) : DE X (.Call (.Name x p) [] [] pos) (dCall sp dNil) := by
  refine ⟨fun pins s σ H Q I ⟨τ, S, R, r0, hs, q, le⟩ => ?_⟩
  refine wpAny_Call_Name_kw (ld_glob I hg hm ?_ hdb)
  have q1 : lSp X.K sp [] H Q fun _ _ _ => False := sp_lift (ds := []) rfl hs q le
  have hl : (([] : List Value) ++ []).length = ps.length := F.len _ _ _ _ q1
  exact PySem.W.callWith_K0 I.kIn hk (runG' F hr gd (hb s [] I.kIn hl) I .nil q1)
/-- the items of l in the order of π -/
def perm {α : Type} (π : List Nat) (d : α) (l : List α) : List α := π.map fun i => l.getD i d
theorem perm_dv {K : PySem.W.Frag} {H : Hp} {ds : List D} {vs : List V} (h : DvA K H ds vs) : ∀ {π : List Nat}, (∀ i ∈ π, i < ds.length) → DvA K H (perm π .non ds) (perm π .non vs)
  | [], _ => rfl
  | i :: π, q => by
    have hi := q i List.mem_cons_self
    obtain ⟨v, e, hv⟩ := h.get (i := i) (d := ds[i]) (by simp [hi])
    refine .cons ?_ (perm_dv h fun j hj => q j (List.mem_cons_of_mem _ hj))
    show Dv K H (ds.getD i .non) (vs.getD i .non)
    rw [List.getD_eq_getElem?_getD, List.getD_eq_getElem?_getD, e]
    simpa [hi] using hv
theorem perm_vals {vs : List V} {us : List Value} (h : Vals vs us) : ∀ {π : List Nat}, (∀ i ∈ π, i < vs.length) → Vals (perm π .non vs) (perm π Value.none us)
  | [], _ => .nil
  | i :: π, q => by
    have hi := q i List.mem_cons_self
    obtain ⟨u, e, hu⟩ := h.get (i := i) (x := vs[i]) (by simp [hi])
    refine .cons ?_ (perm_vals h fun j hj => q j (List.mem_cons_of_mem _ hj))
    show L2.RelV (vs.getD i .non) (us.getD i Value.none)
    rw [List.getD_eq_getElem?_getD, List.getD_eq_getElem?_getD, e]
    simpa [hi] using hu
/-- how a call by keywords alone (names ks) binds: π leads from their order to the parameters' -/
def KwB (fd : FuncData) (ps ks : List Str) (π : List Nat) : Prop := ∀ (s : Shared) (ws : List Value), ws.length = ks.length → BindsTo s fd ⟨[], ks.zip ws⟩ (ps.zip (perm π Value.none ws))
theorem kwB_of {K : PySem.W.Frag} {x qual : Str} {st : Stmt} {ks : List Str} {π : List Nat} (F : Fun K x qual st f fd)
    (h : ∀ (kV doc pm : Value) (an : Option Addr) (cdv ct : Value) (ws : List Value), ws.length = ks.length → bindArgs (PySem.W.fnOf x qual (defArgs st) (defBody st) (defScope st) .none kV doc pm an cdv ct) ⟨[], ks.zip ws⟩ = pure (ps.zip (perm π Value.none ws))) : KwB fd ps ks π := by
  obtain ⟨oc, od, kV, doc, pm, an, cdv, ct, osl, e, _, _⟩ := F.ex
  subst e
  exact fun s ws hl => .of_eq (h kV doc pm an cdv ct ws hl)
def dCallK (sp : DSp) (π : List Nat) (n : Nat) (t : DTA) : DTE := fun τ S R => t τ S fun ds S1 => ds.length = n ∧ sp (perm π .non ds) S1 R
/-- f(k = a, ..): all by keywords -/
theorem de_callK {ks : List Str} {π : List Nat} {kws : List Keyword} (F : FnD X.prog X.w X.K X.mg X.base k f fd ps sp) (hr : Room k X.A) (gd : X.A.guards = some []) (hg : Gl X x) (hm : X.mg x = some (.ref f)) (hk : PySem.W.keepIn X.K (.ref f) = true) (hb : KwB fd ps ks π)
    (hπ : π.all (fun i => decide (i < ks.length)) = true) (ha : DKw X kws t) (hks : (backToKw pos (keywordEach kws X.env)).filterMap (·.1) = ks := by rfl) (hall : (backToKw pos (keywordEach kws X.env)).all (·.1.isSome) = true := by rfl) (hdb : (x == ("__debug__" : Str)) = false := by decide)
    (hpl : ((backTo pos (starEach [] X.env)).any (·.1) || (backToKw pos (keywordEach kws X.env)).any (·.1.isNone)) = false := by rfl) : DE X (.Call (.Name x p) [] kws pos) (dCallK sp π ks.length t) := by
  refine ⟨fun pins s σ H Q I ⟨τ, S, R, r0, hs, q, le⟩ => ?_⟩
  refine wpAny_Call_Name_kw (ld_glob I hg hm ?_ hdb)
  have hA := ha.run pos pins s σ H (fun vs H1 => vs.length = ks.length ∧ lSp X.K sp (perm π .non vs) H1 Q fun _ _ _ => False) I ⟨τ, S, _, r0, hs, q, fun vs H1 ds S1 t1 hs1 h1 ⟨l1, q1⟩ => by
    have l2 : vs.length = ks.length := by rw [← h1.length]; exact l1
    refine ⟨l2, sp_lift (perm_dv h1 fun i hi => ?_) hs1 q1 (le.then t1)⟩
    have z := List.all_eq_true.mp hπ i hi
    rw [l1]
    simpa using z⟩
  refine PySem.W.callWith_KW0 (h₀ := X.base) I.ok.mod.kin hk hall (thn hA fun us s1 ⟨vs, H1, I1, r, l2, q1⟩ => ⟨I1.kIn, ?_⟩) hpl
  rw [hks]
  refine runG' F hr gd (hb s1 us (by rw [← r.length]; exact l2)) I1 (perm_vals r fun i hi => ?_) q1
  have z := List.all_eq_true.mp hπ i hi
  rw [l2]
  simpa using z
end

/-! ### the law -/
/-- the script's list, as it stands in the heap -/
def ScrAt (K : PySem.W.Frag) (H : Hp) (a : Addr) (ns : List Int) : Prop := SqL K H a (ns.map V.int)
section
variable {P : Program} {w : World} {K : PySem.W.Frag} {mg mb : Str → Option Value} {k : Nat} {fa a : Addr} {fd : FuncData} {x : Str} {sp : Sp} {s1 : Shared} {vs : List Value} {ns : List Int}
theorem lawG (inK : K.In s1.heap) (hG : s1.heap.Ns mainGlobals mg) (hB : s1.heap.Ns builtinsNs mb) (hBB : ∀ y : Str, y ≠ "__name__" → mb y = bootBuiltins y) (noLim : s1.heap.NoLimit) (noGen : s1.gens = #[])
    (obj : s1.heap.get? a = some { cls := .type "list", data := .seq vs.toArray }) (scr : IntsAre vs ns) (few : ns.length ≤ sizeLine) (room : Room k callerA)
    (F : ∀ base : Heap, K.In base → base.Ns mainGlobals mg → FnG P w K mg base CX0 k fa fd [x] sp) (bind : ∀ (s : Shared) (u : Value), BindsTo s fd ⟨[u], []⟩ [(x, u)])
    (fit : ∀ H : Hp, SqL K H a (ns.map V.int) → (∀ b, H b ≠ none → b = a ∧ ∃ o, H b = some (.frz o (.lst (ns.map V.int)))) → sp [.ref a] H (fun v _ => v = .bl true) fun _ _ _ => False) :
    codeAny (model P w) callerA (.call (.ref fa) ⟨[.ref a], []⟩) (fun r s' => r = .ok (.ret (.bool true)) ∧ OldK s1.heap s'.heap ∧ s'.os = s1.os ∧ AllBare s'.gens) s1 := by
  have rel := vals_ints scr
  have many := scr.length
  -- over any abstract heap that tracks at most the script, and that frozen
  have main : ∀ H : Hp, SqL K H a (ns.map V.int) → (∀ b, H b ≠ none → b = a ∧ ∃ o, H b = some (.frz o (.lst (ns.map V.int)))) → HOk P w H s1.heap → (H a ≠ none → K.lookup a = none) →
      codeAny (model P w) callerA (.call (.ref fa) ⟨[.ref a], []⟩) (fun r s' => r = .ok (.ret (.bool true)) ∧ OldK s1.heap s'.heap ∧ s'.os = s1.os ∧ AllBare s'.gens) s1 := by
    intro H sq only ok apart
    have free : ∀ {b : Addr} {o : Obj} {es : Array DictEntry} {ep : Nat}, s1.heap.get? b = some o → o.data = .dict es ep → H b = none := by
      intro b o es ep e1 e2
      by_cases q : H b = none
      · exact q
      · obtain ⟨rfl, _⟩ := only b q
        rw [obj] at e1
        cases e1
        cases (show Data.seq vs.toArray _ = Data.dict es ep from e2)
    have ns2 : ∀ {b : Addr} {m : Str → Option Value}, s1.heap.Ns b m → (hidT s1.heap H).Ns b m := by
      rintro b m ⟨o, es, ep, e1, e2, r⟩
      exact ⟨o, es, ep, hidT_get e1 (free e1 e2), e2, r⟩
    have inB : K.In (hidT s1.heap H) := fun b o e => by
      refine hidT_get (inK b o e) ?_
      by_cases q : H b = none
      · exact q
      · obtain ⟨rfl, _⟩ := only b q
        rw [apart q] at e
        cases e
    obtain ⟨mc, l1, l2⟩ := noLim
    have md : Mod K mg (hidT s1.heap H) := ⟨inB, ns2 hG, ⟨mb, ns2 hB, hBB⟩, ⟨mc, ns2 l1, l2⟩⟩
    have env0 : Env0 P w K mg (hidT s1.heap H) callerA [] s1 H :=
      { frames := rfl, mod := md, bs := fun b o e => of_hidT e, bsz := Nat.le_of_eq (hidT_size _ _), funs := trivial, frf := fun b hb => absurd (show b ∈ ([] : List Addr) from hb) List.not_mem_nil, hok := ok, bare := .of_eq noGen }
    refine codeAny_mono ((F _ inB (ns2 hG)).go callerA [] s1 H ⟨[.ref a], []⟩ [.ref a] [.ref a] _ _ room rfl env0 (bind s1 (.ref a)) (.cons rfl .nil) (fit H sq only)) fun r s' h => ?_
    cases r with
    | error e => exact False.elim h
    | ok fl =>
      cases fl with
      | ret u =>
        obtain ⟨v, H2, os, bare, un, ok2, rv, q⟩ := h
        have q : v = .bl true := q
        subst q
        have rv : u = Value.bool true := rv
        subst rv
        refine ⟨rfl, OldK.of_keep fun b o e => ?_, os, bare⟩
        by_cases q : H b = none
        · exact un.keep b o e q (fun z => absurd (show b ∈ ([] : List Addr) from z) List.not_mem_nil) List.not_mem_nil
        · obtain ⟨_, ob, z⟩ := only b q
          have e1 := (ok b _ z).1
          have e2 := (ok2 b _ (un.frzs b ob _ z)).1
          rw [e] at e1
          cases e1
          exact e2
      | _ => exact False.elim h
  cases look : K.lookup a with
  | some o =>
    have e := inK a o look
    rw [obj] at e
    cases e
    refine main (fun _ => none) (.inr ⟨_, vs.toArray, _, look, rfl, rfl, rfl, by rw [List.size_toArray, many]; exact few, by simpa using rel⟩) (fun b z => absurd rfl z) (fun b u z => by cases (show (none : Option HO) = some u from z)) fun z => absurd rfl z
  | none =>
    refine main (fun b => if b = a then some (.frz { cls := .type "list", data := .seq vs.toArray } (.lst (ns.map V.int))) else none) (.inl (.inr ⟨_, if_pos rfl⟩)) (fun b z => ?_) (fun b u z => ?_) fun _ => look
    · by_cases e : b = a
      · exact ⟨e, _, if_pos e⟩
      · exact absurd (if_neg e) z
    · by_cases e : b = a
      · subst e
        have z := (if_pos rfl).symm.trans z
        cases z
        exact ⟨obj, by rw [List.length_map]; exact few, vs, _, rel, obj⟩
      · have z := (if_neg e).symm.trans z
        cases z
end
/-- the store at the law's entry: the script alone, read -/
def scrS (a : Addr) (ns : List Int) : DS := fun b => if b = a then some (.fro (ns.map D.int)) else none
/-- the goal of k_head, from the promise of the law's def -/
theorem walkG {l : PySem.W.OpenLaw} {n k : Nat} {q : Program} {loose : List Str} {XP : (Str → Option Value) → Heap → Prop} {YP : World → Heap → Prop} {d : DefRec} {K : Params → PySem.W.Frag} {sp : DSp} {x : Str}
    (hn : l.most = some n) (hn2 : n ≤ sizeLine) (hdf : d.params.defaults = []) (hr : Room k callerA) (hY : ∀ (w : World) (h : Heap), YP w h → (K w.params).In h)
    (F : ∀ (w : World) (mg : Str → Option Value) (fa : Addr) (h : Heap), (K w.params).In h → h.Ns mainGlobals mg → mg d.name = some (.ref fa) →
      ∃ fd : FuncData, (∀ (s : Shared) (u : Value), BindsTo s fd ⟨[u], []⟩ [(x, u)]) ∧ ∀ base : Heap, (K w.params).In base → base.Ns mainGlobals mg → FnD l.prog w (K w.params) mg base k fa fd [x] sp)
    (hsp : ∀ (a : Addr) (ns : List Int), ns.length ≤ n → sp [.ref a] (scrS a ns) fun d _ => d = .bl true) : PySem.W.WalkO q loose XP YP l.row.toRowW d [] (fun f vs => PySem.call f vs) := by
  refine Att.attach_call hn hdf fun w s₀ s₁ mg mb fa o pm cd doc a vs ns G Y ho hd hcd hmg hobj hints hlen hg => ?_
  have inK := hY w _ Y
  obtain ⟨fd, hb, hF⟩ := F w mg fa _ inK G.T.g hmg
  refine lawG inK G.T.g G.T.b G.T.builtins G.T.nolimit hg hobj hints (Nat.le_trans hlen hn2) hr hF hb fun H sq _ => ?_
  refine ⟨[.ref a], scrS a ns, fun d _ => d = .bl true, ⟨_, _, rfl, rfl, rfl⟩, fun b u e => ?_, hsp a ns hlen, fun v H' d S' _ _ h q => ?_⟩
  · unfold scrS at e
    by_cases z : b = a
    · subst z
      rw [if_pos rfl] at e
      cases e
      exact ⟨_, sq, DvA.ints ns⟩
    · rw [if_neg z] at e
      cases e
  · have q : d = .bl true := q
    subst q
    exact h
end DL

/-! DL7: methods, stores, truth, displays of dicts, x[::-1], several names at once -/
namespace DL
open PySem PySem.Spec PyProof.Rows L2

section
variable {X : Cx} {o e : Expr} {es : List Expr} {to : DTE} {t : DTA} {name : Str} {apos cpos pos : Pos} {T id : String}
/-- the value is of that built-in type -/
def dTyV (T : String) (x : D) (S : DS) : Prop := match x with
  | .str _ => T = "str"
  | .ref a => (T = "list" ∧ ∃ xs, rdL S a xs) ∨ (T = "dict" ∧ ((∃ kvs, S a = some (.dK kvs)) ∨ ∃ kvs, S a = some (.dT kvs)))
  | _ => False
theorem dTyV.v {K : PySem.W.Frag} {H : Hp} {S : DS} {x : D} {v : V} (h : dTyV T x S) (hs : HS K H S) (hv : Dv K H x v) : tyV K T v H := by
  cases x with
  | str z => cases hv; exact h
  | ref a =>
    cases hv
    rcases h with ⟨h, xs, rd⟩ | ⟨h, ⟨kvs, e⟩ | ⟨kvs, e⟩⟩
    · obtain ⟨ys, h1, _⟩ := hs.rd rd
      exact .inl ⟨h, ys, h1⟩
    · obtain ⟨ks, h1, _⟩ := hs _ _ e
      exact .inr (.inr (.inl ⟨h, .inl ⟨ks, h1⟩⟩))
    · obtain ⟨ks, h1, _⟩ := hs _ _ e
      exact .inr (.inr (.inl ⟨h, .inr ⟨ks, h1⟩⟩))
  | _ => exact False.elim h
abbrev DRM := D → List D → DS → DK → Prop
def lM (K : PySem.W.Frag) (r : DRM) : V → List V → Hp → VK → Prop := fun x vs H Q => ∃ dx ds S R, Dv K H dx x ∧ DvA K H ds vs ∧ HS K H S ∧ r dx ds S R ∧ LeE K H R Q
def dM (T : String) (r : DRM) (to : DTE) (t : DTA) : DTE := fun τ S R => to τ S fun x S1 => dTyV T x S1 ∧ t τ S1 fun ds S2 => r x ds S2 R
theorem de_bm {r : DRM} (pa : PlainAttrs T) (slot : Slot T name id) (hty : typeOf (.builtin id) = pure (.type "method_descriptor")) (hm : MtR X id (lM X.K r)) (ho : DE X o to) (ha : DA X (e :: es) t) (hbase : attributeBase o name X.env (eval o X.env) = eval o X.env := by rfl)
    (hfew : ((backTo cpos (starEach (e :: es) X.env)).all (fun x => !x.1) && (backToKw cpos (keywordEach [] X.env)).all (fun x => x.1.isSome) && decide ((e :: es).length + ([] : List Keyword).length + (if ([] : List Keyword).isEmpty then 0 else 1) < 30)) = true := by rfl)
    (hline : (apos.endLine == cpos.line) = true := by rfl) (hs : starEach (e :: es) X.env = (false, eval e X.env) :: starEach es X.env := by rfl) (hplain : (backTo cpos (starEach es X.env)).any (·.1) = false := by rfl) :
    DE X (.Call (.Attribute o name apos) (e :: es) [] cpos) (dM T r to t) := imE (pe_bm pa slot hty hm ho ha hbase hfew hline hs hplain) fun σ H Q ⟨τ, S, R, r0, hs, q, le⟩ =>
  ⟨τ, S, _, r0, hs, q, fun v H1 d S1 t1 hs1 h1 ⟨ty, q1⟩ => ⟨ty.v hs1 h1, τ, S1, _, r0.mono t1, hs1, q1, fun vs H2 ds S2 t2 hs2 h2 q2 => ⟨d, ds, S2, R, h1.mono t2, h2, hs2, q2, le.then (t1.trans t2)⟩⟩⟩
theorem de_bm0 {r : DRM} (pa : PlainAttrs T) (slot : Slot T name id) (hty : typeOf (.builtin id) = pure (.type "method_descriptor")) (hm : MtR X id (lM X.K r)) (ho : DE X o to) (hbase : attributeBase o name X.env (eval o X.env) = eval o X.env := by rfl)
    (hline : (apos.endLine == cpos.line) = true := by rfl) : DE X (.Call (.Attribute o name apos) [] [] cpos) (dM T r to dNil) := imE (pe_bm0 pa slot hty hm ho hbase hline) fun σ H Q ⟨τ, S, R, r0, hs, q, le⟩ =>
  ⟨τ, S, _, r0, hs, q, fun v H1 d S1 t1 hs1 h1 ⟨ty, q1⟩ => ⟨ty.v hs1 h1, d, [], S1, R, h1, rfl, hs1, q1, le.then t1⟩⟩
/-- a text's method with one argument -/
def dM1 (r : DRM) (to te : DTE) : DTE := fun τ S R => to τ S fun x S1 => (∃ a, x = .str a) ∧ te τ S1 fun y S2 => r x [y] S2 R
theorem de_m1 {r : DRM} {te : DTE} (slot : Slot "str" name id) (ty : typeOf (.builtin id) = pure (.type "method_descriptor")) (rule : MtR X id (lM X.K r)) (ho : DE X o to) (he : DE X e te) (hs : starEach [e] X.env = [(false, eval e X.env)] := by rfl)
    (hbase : attributeBase o name X.env (eval o X.env) = eval o X.env := by rfl) (hline : (apos.endLine == pos.line) = true := by rfl) : DE X (.Call (.Attribute o name apos) [e] [] pos) (dM1 r to te) := imE (pe_m1 slot ty rule ho he hs hbase hline) fun σ H Q ⟨τ, S, R, r0, hs, q, le⟩ =>
  ⟨τ, S, _, r0, hs, q, fun v H1 d S1 t1 hs1 h1 ⟨⟨a, e1⟩, q1⟩ => by
    subst e1
    refine ⟨⟨a, h1⟩, τ, S1, _, r0.mono t1, hs1, q1, fun w H2 d2 S2 t2 hs2 h2 q2 => ?_⟩
    exact ⟨.str a, [d2], S2, R, Dv.mono (d := .str a) t2 h1, .cons h2 rfl, hs2, q2, le.then (t1.trans t2)⟩⟩

def rAppendD : DRM := fun x ds S R => match x, ds with
  | .ref a, [d] => ∃ xs, S a = some (.lst xs) ∧ xs.length < sizeLine ∧ R .non (S.set a (.lst (xs ++ [d])))
  | _, _ => False
theorem mt_Append : MtR X "list.append" (lM X.K rAppendD) := by
  intro pins s σ H x vs v us Q I rx rv ⟨dx, ds, S, R, hx, hv, hs, q, le⟩
  unfold rAppendD at q
  split at q
  · next a d =>
    obtain ⟨xs, e1, z, q⟩ := q
    obtain ⟨w, e2, h2⟩ := v1 hv
    subst e2
    cases hx
    obtain ⟨ys, h1, g1⟩ := hs a _ e1
    have tl : TupLe X.K H (upd H a (.lst (ys ++ [w]))) := tl_lst h1
    exact mt_append pins s σ H _ _ v us Q I rx rv ⟨a, ys, w, rfl, rfl, h1, by rw [← g1.length]; exact z, le .non _ .non _ tl (hs.upd (d := .lst (xs ++ [d])) tl ⟨_, upd_same, (g1.mono tl).append (.cons (h2.mono tl) rfl)⟩) rfl q⟩
  · exact q.elim
def rExtendD : DRM := fun x ds S R => match x, ds with
  | .ref a, [.ref b] => ∃ xs ys, S a = some (.lst xs) ∧ S b = some (.lst ys) ∧ xs.length + ys.length ≤ sizeLine ∧ R .non (S.set a (.lst (xs ++ ys)))
  | _, _ => False
theorem mt_Extend : MtR X "list.extend" (lM X.K rExtendD) := by
  intro pins s σ H x vs v us Q I rx rv ⟨dx, ds, S, R, hx, hv, hs, q, le⟩
  unfold rExtendD at q
  split at q
  · next a b =>
    obtain ⟨xs, ys, e1, e2, z, q⟩ := q
    obtain ⟨w, e3, h2⟩ := v1 hv
    subst e3
    cases hx
    cases h2
    obtain ⟨us', h1, g1⟩ := hs a _ e1
    obtain ⟨ws, h3, g3⟩ := hs b _ e2
    have tl : TupLe X.K H (upd H a (.lst (us' ++ ws))) := tl_lst h1
    exact mt_extend pins s σ H _ _ v us Q I rx rv ⟨a, b, us', ws, rfl, rfl, h1, h3, by rw [← g1.length, ← g3.length]; exact z, le .non _ .non _ tl (hs.upd (d := .lst (xs ++ ys)) tl ⟨_, upd_same, (g1.mono tl).append (g3.mono tl)⟩) rfl q⟩
  · exact q.elim
theorem DvA.dropLast {K : PySem.W.Frag} {H : Hp} {ds : List D} {xs : List V} (h : DvA K H ds xs) : DvA K H ds.dropLast xs.dropLast := by
  rw [List.dropLast_eq_take, List.dropLast_eq_take, h.length]
  exact h.take _
def rPopD : DRM := fun x ds S R => match x, ds with
  | .ref a, [] => ∃ xs d, S a = some (.lst (xs ++ [d])) ∧ R d (S.set a (.lst xs))
  | _, _ => False
theorem mt_Pop : MtR X "list.pop" (lM X.K rPopD) := by
  intro pins s σ H x vs v us Q I rx rv ⟨dx, ds, S, R, hx, hv, hs, q, le⟩
  unfold rPopD at q
  split at q
  · next a =>
    obtain ⟨xs, d, e1, q⟩ := q
    have hv : vs = [] := hv
    subst hv
    cases hx
    obtain ⟨ys, h1, g1⟩ := hs a _ e1
    have hl := g1.length
    rw [List.length_append, List.length_singleton] at hl
    obtain ⟨w, e2, h2⟩ := g1.get (i := xs.length) (d := d) (by simp)
    have tl : TupLe X.K H (upd H a (.lst ys.dropLast)) := tl_lst h1
    have g2 := (g1.dropLast).mono tl
    rw [List.dropLast_concat] at g2
    exact mt_pop pins s σ H _ _ v us Q I rx rv ⟨a, ys, w, rfl, rfl, h1, by rw [show ys.length - 1 = xs.length by omega]; exact e2, le w _ d _ tl (hs.upd (d := .lst xs) tl ⟨_, upd_same, g2⟩) (h2.mono tl) q⟩
  · exact q.elim
theorem strs_v {K : PySem.W.Frag} {H : Hp} : ∀ {ys : List Str} {vs : List V}, DvA K H (ys.map D.str) vs → vs = ys.map V.str
  | [], _, h => h
  | y :: ys, _, ⟨v, vr, e, h, r⟩ => by
    have h : v = .str y := h
    rw [e, h, strs_v r]
    rfl
def rJoinD : DRM := fun x ds S R => match x, ds with
  | .str a, [d] => ∃ ys : List Str, seqOf S d (ys.map D.str) ∧ (ys.map (·.length)).sum + ys.length * a.length ≤ 16777216 ∧ R (.str (Txt.join a ys)) S
  | _, _ => False
theorem mt_Join : MtR X "str.join" (lM X.K rJoinD) := by
  intro pins s σ H x vs v us Q I rx rv ⟨dx, ds, S, R, hx, hv, hs, q, le⟩
  unfold rJoinD at q
  split at q
  · next a d =>
    obtain ⟨ys, h1, z, q⟩ := q
    obtain ⟨w, e2, h2⟩ := v1 hv
    subst e2
    cases hx
    obtain ⟨p, zs, e3, h3, h4⟩ := h1.at hs h2
    rw [strs_v h4] at h3
    exact mt_join pins s σ H _ _ v us Q I rx rv ⟨a, p, ys, rfl, by rw [e3], h3, z, fin_str le hs q⟩
  · exact q.elim

/-! ### o[i] = v -/
abbrev DTSet := D → D → D → DS → (DS → Prop) → Prop
def lSet (K : PySem.W.Frag) (r : DTSet) : V → V → V → Hp → (Hp → Prop) → Prop := fun o i v H Q => ∃ do' di dv S R, Dv K H do' o ∧ Dv K H di i ∧ Dv K H dv v ∧ HS K H S ∧ r do' di dv S R ∧ ∀ H' S', TupLe K H H' → HS K H' S' → R S' → Q H'
def rSetD : DTSet := fun o i v S R => match o, i with
  | .ref a, .int k => ∃ xs j, S a = some (.lst xs) ∧ ixN xs.length k = some j ∧ R (S.set a (.lst (xs.set j v)))
  | _, _ => False
theorem set_List : PSet X (lSet X.K rSetD) := by
  intro pins s σ H o i v ov iv u Q I ro ri rv ⟨d1, d2, d3, S, R, h1, h2, h3, hs, q, le⟩
  unfold rSetD at q
  split at q
  · next a k =>
    obtain ⟨xs, j, e1, e2, q⟩ := q
    cases h1
    cases h2
    obtain ⟨ys, g0, g1⟩ := hs a _ e1
    have tl : TupLe X.K H (upd H a (.lst (ys.set j v))) := tl_lst g0
    exact set_list pins s σ H _ _ v ov iv u Q I ro ri rv ⟨a, ys, k, j, rfl, rfl, g0, by rw [← g1.length]; exact e2, le _ _ tl (hs.upd (d := .lst (xs.set j d3)) tl ⟨_, upd_same, (g1.mono tl).set (h3.mono tl) j⟩) q⟩
  · exact q.elim
def dgSub (to ti : DTE) (r : DTSet) : DTG := fun d τ S R => to τ S fun o S1 => ti τ S1 fun i S2 => r o i d S2 fun S3 => R τ S3
theorem dg_sub {i : Expr} {ti : DTE} {r : DTSet} (ho : DE X o to) (hi : DE X i ti) (hset : PSet X (lSet X.K r)) (ha : ∀ v, assign (.Subscript o i pos) X.env v = (do
      let ov ← holding [v] (eval o X.env)
      let iv ← holding [v, ov] (eval i X.env)
      standAt pos
      holding [v, ov, iv] (setItem ov iv v)
      release [v, ov, iv] []) := by intro _; rfl) : DG X (.Subscript o i pos) (dgSub to ti r) := imG (pg_sub ho hi hset ha) fun v σ H Q ⟨d, τ, S, R, h, r0, hs, q, le⟩ =>
  ⟨τ, S, _, r0, hs, q, fun o' H1 d1 S1 t1 hs1 h1 q1 => ⟨τ, S1, _, r0.mono t1, hs1, q1, fun i' H2 d2 S2 t2 hs2 h2 q2 =>
    ⟨d1, d2, d, S2, _, h1.mono t2, h2, (h.mono t1).mono t2, hs2, q2, fun H3 S3 t3 hs3 q3 => le σ H3 τ S3 ((t1.trans t2).trans t3) (((r0.mono t1).mono t2).mono t3) hs3 q3⟩⟩⟩

/-! ### truth -/
def dTru (d : D) (S : DS) (k : Bool) : Prop := match d with
  | .non => k = false
  | .bl b => k = b
  | .int i => k = (i != 0)
  | .str y => y.length ≤ sizeLine ∧ k = ((y.length : Int) != 0)
  | .tup xs => k = !xs.isEmpty
  | .ref a => (∃ xs, rdL S a xs ∧ k = !xs.isEmpty) ∨ ∃ kvs, S a = some (.dK kvs) ∧ k = !kvs.isEmpty
  | .ty _ => False
theorem dva_empty {K : PySem.W.Frag} {H : Hp} {ds : List D} {xs : List V} (h : DvA K H ds xs) : ds.isEmpty = xs.isEmpty := by
  have := h.length
  cases ds <;> cases xs <;> simp_all
theorem dTru.v {K : PySem.W.Frag} {H : Hp} {S : DS} {x : D} {v : V} {k : Bool} (h : dTru x S k) (hs : HS K H S) (hv : Dv K H x v) : TruV K v H k := by
  cases x with
  | non => cases hv; exact h
  | bl b => cases hv; exact h
  | int b => cases hv; exact h
  | str b => cases hv; exact h
  | tup xs =>
    obtain ⟨a, ys, e, h1, h2⟩ := hv
    subst e
    refine .inr (.inl ⟨ys, h1, ?_⟩)
    rw [← dva_empty h2]
    exact h
  | ref a =>
    cases hv
    rcases h with ⟨xs, rd, h⟩ | ⟨kvs, e, h⟩
    · obtain ⟨ys, h1, h2⟩ := hs.rd rd
      exact .inl ⟨ys, h1, by rw [← dva_empty h2]; exact h⟩
    · obtain ⟨ks, h1, h2⟩ := hs _ _ e
      refine .inr (.inr ⟨ks, h1, ?_⟩)
      rw [h]
      cases h2 <;> rfl
  | ty _ => exact False.elim h
def dTruth (t : DTE) : DTT := fun τ S R => t τ S fun d S1 => ∃ k, dTru d S1 k ∧ R k S1
theorem dt_truth {t : DTE} (h : DE X e t) (he : ∀ whole, isTrue e X.env whole = (do let v ← whole; standAt e.pos; holding [v] (truthy v)) := by intro _; rfl) : DT X e (dTruth t) := imT (pt_truth h he) fun σ H Q ⟨τ, S, R, r, hs, q, le⟩ =>
  ⟨τ, S, _, r, hs, q, fun v H1 d S1 t1 hs1 h1 ⟨c, e1, q1⟩ => ⟨c, e1.v hs1 h1, le c H1 S1 t1 hs1 q1⟩⟩

/-! ### {}, {k: v, ..} -/
def dDict0 : DTE := fun _ S R => ∀ p, Fresh S p → R (.ref p) (S.set p (.dK []))
theorem de_dict0 : DE X (.Dict [] [] pos) dDict0 := imE pe_dnewK fun σ H Q ⟨τ, S, R, r, hs, q, le⟩ p n =>
  le _ _ (.ref p) _ (tl_new n) (hs.upd (d := .dK []) (tl_new n) ⟨[], upd_same, .nil⟩) rfl (q p (hs.fresh n))
/-- one pair, its key a text -/
def dDict1 (tk tv : DTE) : DTE := fun τ S R => ∀ p, Fresh S p → tk τ (S.set p (.dK [])) fun dk S1 => tv τ S1 fun dv S2 => ∃ x, dk = .str x ∧ S2 p = some (.dK []) ∧ R (.ref p) (S2.set p (.dK [(.inr x, dv)]))
theorem de_dict1 {k v : Expr} {tk tv : DTE} (hk : DE X k tk) (hv : DE X v tv) : DE X (.Dict [some k] [v] pos) (dDict1 tk tv) := imE (pe_disp (pps_cons hk hv pps_nil) (by rfl) (by rfl) (fun z => by cases z) (by show 1 ≤ 15; decide)) fun σ H Q ⟨τ, S, R, r, hs, q, le⟩ p n => by
  have t0 : TupLe X.K H (upd H p (.dK [])) := tl_new n
  refine ⟨τ, _, _, r.mono t0, hs.upd (d := .dK []) t0 ⟨[], upd_same, .nil⟩, q p (hs.fresh n), fun kv H1 dk S1 t1 hs1 h1 q1 => ?_⟩
  refine ⟨τ, S1, _, (r.mono t0).mono t1, hs1, q1, fun vv H2 dv S2 t2 hs2 h2 ⟨x, e1, e2, q2⟩ => ?_⟩
  subst e1
  obtain ⟨ks, g1, g2⟩ := hs2 p _ e2
  cases g2
  have h1 : kv = .str x := h1
  subst h1
  have t3 : TupLe X.K H2 (upd H2 p (.dK [(.inr x, vv)])) := tl_dK g1
  refine ⟨g1, [(.inr x, vv)], rfl, (by show 1 ≤ 15; decide), ?_⟩
  exact le _ _ (.ref p) _ (((t0.trans t1).trans t2).trans t3) (hs2.upd (d := .dK [(.inr x, dv)]) t3 ⟨_, upd_same, .cons ⟨rfl, h2.mono t3⟩ .nil⟩) rfl q2

/-! ### a, b, c = x, y, z with plain names -/
def dPar3 (i j l : Nat) (t : DTA) : DTS := fun E τ S => t τ S fun ds S1 => ∃ d d' d'', ds = [d, d', d''] ∧ E.nx (((τ.set i (some d)).set j (some d')).set l (some d'')) S1
theorem ds_par3 {i j l : Nat} {x y z : Str} {a b c : Expr} {px py pz pt : Pos} {kt k2 pt2} (hc : X.calm = true) (hN : X.N.Nodup) (hi : X.N[i]? = some x) (hj : X.N[j]? = some y) (hl : X.N[l]? = some z) (hij : i ≠ j) (hil : i ≠ l) (hjl : j ≠ l)
    (hx : X.env.scope.names.lookup x = some .local) (hy : X.env.scope.names.lookup y = some .local) (hz : X.env.scope.names.lookup z = some .local) (ha : DA X [a, b, c] t)
    (hw : swappedStores [.Tuple [.Name x px, .Name y py, .Name z pz] kt pt] (.Tuple [a, b, c] k2 pt2) X.env = pure (some [x, y, z]))
    (hs : swapsWithSole [.Tuple [.Name x px, .Name y py, .Name z pz] kt pt] (.Tuple [a, b, c] k2 pt2) pos.line X.env = pure false := by rfl) :
    DSm X (.Assign [.Tuple [.Name x px, .Name y py, .Name z pz] kt pt] (.Tuple [a, b, c] k2 pt2) pos) (dPar3 i j l t) := imS (ps_par3 hc hN hi hj hl hij hil hjl hx hy hz ha hw hs) fun F σ H ⟨τ, S, E, r, hs, q, le⟩ =>
  ⟨τ, S, _, r, hs, q, fun vs H1 ds S1 t1 hs1 h1 ⟨d, d', d'', e1, q1⟩ => by
    subst e1
    obtain ⟨u, ur, e2, g1, h2⟩ := h1
    obtain ⟨v, w, e3, g2, g3⟩ := v2 h2
    subst e3
    exact ⟨u, v, w, e2, le.nx _ H1 _ S1 t1 ((((r.mono t1).set g1 i).set g2 j).set g3 l) hs1 q1⟩⟩
end
end DL

/-! DL8: x[::-1], enumerate over tuples and lists -/
namespace DL
open PySem PySem.Spec PyProof.Rows L2

section
variable {prog : Program} {w : World} {A : Around} {E : Value → Shared → Prop} {s : Shared}
theorem back_arr (xs : Array Value) : ((List.range xs.size).filterMap fun (k : Nat) => xs[(((xs.size : Int) - 1) + (k : Int) * (-1)).toNat]?).toArray = xs.toList.reverse.toArray := by
  have g := PySem.W.krv_all xs.toList.reverse.toArray
  have hz : xs.toList.reverse.toArray.size = xs.size := by simp
  rw [hz] at g
  refine congrArg List.toArray (Eq.trans ?_ g)
  have f : ∀ (l : List Nat), (∀ k ∈ l, k < xs.size) → l.filterMap (fun (k : Nat) => xs[(((xs.size : Int) - 1) + (k : Int) * (-1)).toNat]?) = l.filterMap (xs.toList.reverse.toArray[·]?) := by
    intro l
    induction l with
    | nil => intro _; rfl
    | cons a l ih =>
      intro h
      have ha := h a List.mem_cons_self
      have e : xs[(((xs.size : Int) - 1) + (a : Int) * (-1)).toNat]? = xs.toList.reverse.toArray[a]? := by
        rw [show (((xs.size : Int) - 1) + (a : Int) * (-1)).toNat = xs.size - 1 - a by omega]
        have z : xs.toList.reverse[a]? = xs.toList[xs.toList.length - 1 - a]? := List.getElem?_reverse (by simpa using ha)
        have z2 : xs.toList.reverse.toArray[a]? = xs.toList.reverse[a]? := List.getElem?_toArray
        rw [z2, z]
        simp
      rw [List.filterMap_cons, List.filterMap_cons, ih fun k hk => h k (List.mem_cons_of_mem _ hk), e]
  exact f _ fun k hk => List.mem_range.mp hk
theorem applied_back {sl : Addr} {vl vu vs : Value} {n : Nat} {Q : Int × Int × Nat → Shared → Prop} (hs : s.heap.IsSliceOf sl vl vu vs) (pl : IsPart vl none) (pu : IsPart vu none) (ps : IsPart vs (some (-1))) (h : Q ((n : Int) - 1, -1, n) s) :
    wpAny (model prog w) A (Builtin.Slice.sliceApplied (.ref sl) (pure (n : Int))) Q E s := by
  obtain ⟨os, g1, g2, g3⟩ := id hs
  unfold Builtin.Slice.sliceApplied Builtin.Slice.sliceFields
  refine wpAny_bind (wpAny_bind (wpAny_field g1 g3 (x := vl) rfl (wpAny_bind (wpAny_field g1 g3 (x := vu) rfl (wpAny_bind (wpAny_field g1 g3 (x := vs) rfl (wpAny_pure ?_)))))))
  refine wpAny_bind (HT.slicePart_ ps ?_)
  show wpAny _ _ (if ((-1 : Int) == 0) = true then _ else _) _ _ s
  rw [if_neg (by decide)]
  refine wpAny_bind (HT.slicePart_ pl (wpAny_bind (HT.slicePart_ pu (wpAny_bind (wpAny_pure ?_)))))
  have e : Builtin.Slice.slicePlaces ((n : Int) - 1) (-1) (-1) = n := by
    unfold Builtin.Slice.slicePlaces
    rw [if_neg (by decide)]
    by_cases q : (n : Int) - 1 > -1
    · rw [if_pos q, show (-(-1) : Int) = 1 by decide, Int.ediv_one]
      omega
    · rw [if_neg q]
      omega
  show wpAny _ _ (pure ((n : Int) - 1, (-1 : Int), Builtin.Slice.slicePlaces ((n : Int) - 1) (-1) (-1))) _ _ s
  rw [e]
  exact wpAny_pure h
theorem getItem_tuple_back {t sl : Addr} {items : Array Value} {vl vu vs : Value} {Q : Value → Shared → Prop} (ht : IsTup s.heap t items) (hs : s.heap.IsSliceOf sl vl vu vs) (pl : IsPart vl none) (pu : IsPart vu none) (ps : IsPart vs (some (-1)))
    (h : Q (.ref s.heap.objs.size) { s with heap := s.heap.push { cls := .type "tuple", data := .seq items.toList.reverse.toArray } }) (hsz : items.size ≤ sizeLine) : wpAny (model prog w) A (getItem (.ref t) (.ref sl)) Q E s := by
  obtain ⟨os, g1, g2, g3⟩ := id hs
  have hT : s.TypeIs (.ref sl) "slice" := ⟨os, g1, g2⟩
  have fits : sizeOk (.seq items.toList.reverse.toArray) := by
    show items.toList.reverse.toArray.size ≤ sizeLine
    simpa using hsz
  unfold getItem
  try with_reducible refine wpAny_holding ?_
  first | refine wpAny_bind (wpAny_pure ?_) | skip
  refine wpAny_bind (wpAny_sequenceKey ht.typeIs (by decide) (wpAny_bind (wpAny_callSpecial?_slot (name := Str.ofString "__getitem__") ht.typeIs PyProof.Rows.slot_tuple_getitem (wpAny_call_entry PyProof.Rows.slot_tuple_getitem ht.typeIs PyProof.Rows.entry_tuple_getitem ?_ (PyProof.Rows.args_tuple_getitem _ _)))))
  show wpAny _ _ (Builtin.Tuple.tupleItemsOf (.ref t) >>= _) _ _ s
  refine wpAny_bind (tupleItemsOf_ ht (wpAny_bind (wpAny_typeOf hT ?_)))
  rw [if_pos (by decide)]
  refine wpAny_bind (applied_back hs pl pu ps ?_)
  have no : ¬ ((((items.size : Int) - 1) == 0 && (-1 : Int) == 1 && items.size == items.size) = true) := by
    rw [show ((-1 : Int) == 1) = false by decide]
    simp
  show wpAny _ _ (if (((items.size : Int) - 1) == 0 && (-1 : Int) == 1 && items.size == items.size) = true then _ else _) _ _ s
  rw [if_neg no, back_arr]
  first
    | exact wpAny_bind (m := Builtin.Tuple.tupleExact _) (wpAny_newObj_type (wpAny_pure ⟨_, rfl, wpAny_pure h⟩) fits)
    | exact wpAny_bind (m := Builtin.Tuple.tupleExact _) (wpAny_newObj_type (wpAny_bind (wpAny_pure (wpAny_pure ⟨_, rfl, wpAny_pure h⟩))) fits)
    | exact wpAny_bind (wpAny_bind (m := Builtin.Tuple.tupleExact _) (wpAny_newObj_type (wpAny_pure (wpAny_pure ⟨_, rfl, wpAny_pure h⟩)) fits))
    | exact wpAny_bind (wpAny_bind (m := Builtin.Tuple.tupleExact _) (wpAny_newObj_type (wpAny_pure ⟨_, rfl, wpAny_pure h⟩) fits))
end

/-! ### x[::-1] of a text or a tuple -/
def revS (x : Str) : Str := ⟨x.cps.toList.reverse.toArray⟩
theorem revS_by (x : Str) (u : Tok) : Txt.sliceBy x none none (-1, u) = revS x := by
  unfold Txt.sliceBy revS
  rw [if_neg (by simp)]
  congr 2
  show (sliceRange ((x.length : Int) - 1) (-1) (-1)).filterMap (x.cps[·]?) = _
  rw [PySem.W.krv_sliceRange, PySem.W.krv_range, List.filterMap_reverse]
  exact congrArg List.reverse (PySem.W.krv_all x.cps)
section
variable {X : Cx} {e : Expr} {te : DTE} {k : Nat} {p1 p2 p3 pos : Pos}
def rBack : DR1 := fun x S R => match x with
  | .str z => z.length ≤ sizeLine ∧ R (.str (revS z)) S
  | .tup ds => R (.tup ds.reverse) S
  | .ref a => ∃ ds, rdL S a ds ∧ ∀ p, Fresh S p → R (.ref p) (S.set p (.lst ds.reverse))
  | _ => False
theorem DvA.reverse {K : PySem.W.Frag} {H : Hp} : ∀ {ds : List D} {xs : List V}, DvA K H ds xs → DvA K H ds.reverse xs.reverse
  | [], _, h => by
    have h : _ = [] := h
    rw [h]
    rfl
  | _ :: _, _, ⟨v, vs, e, h, r⟩ => by
    rw [e, List.reverse_cons, List.reverse_cons]
    exact (DvA.reverse r).append (.cons h rfl)
theorem de_back (he : DE X e te) : DE X (.Subscript e (.Slice none none (some (.UnaryOp .USub (.Constant (.int 1) k p1) p2)) p3) pos) (dUn rBack te) := by
  refine ⟨fun pins s σ H Q I ⟨τ, S, R, r0, hs, q, le⟩ => ?_⟩
  refine Subscript_ (thn (he.run pins s σ H (fun x H1 => l1 X.K rBack x H1 Q) I ⟨τ, S, _, r0, hs, q, fun v H1 d S1 t1 hs1 h1 q1 => ⟨d, S1, R, h1, hs1, q1, le.then t1⟩⟩) fun v s1 ⟨x, H1, I1, rx, d, S1, R1, h1, hs1, q1, le1⟩ => ?_)
  have part : PO X (some (.UnaryOp .USub (.Constant (.int 1) k p1) p2)) (L2.tPart (tUn (rU fun i => .int (-i)) (tC (.int 1)))) := po_some (pe_un un_neg pe_int)
  refine wpAny_Slice (thn (po_none.run pins s1 σ H1 (fun o Z => o = none ∧ Z = H1) I1 ⟨rfl, rfl⟩) fun vl s2 ⟨l, Z2, I2, pl, el, e2⟩ => ?_)
  subst el e2
  refine thn (po_none.run pins s2 σ Z2 (fun o Z => o = none ∧ Z = Z2) I2 ⟨rfl, rfl⟩) fun vu s3 ⟨u, Z3, I3, pu, eu, e3⟩ => ?_
  subst eu e3
  refine thn (part.run pins s3 σ Z3 (fun o Z => o = some (-1) ∧ Z = Z3) I3 ⟨1, rfl, -1, rfl, rfl, rfl⟩) fun vs s4 ⟨o, Z4, I4, ps, eo, e4⟩ => ?_
  subst eo e4
  have I5 : Inv X pins σ Z4 { s4 with heap := s4.heap.push { cls := .type "slice", data := .fields #[vl, vu, vs] } } := I4.kept (t' := s4.toks) fun b ob z => Heap.get?_push_of_some _ z
  show wpAny _ X.A (subscriptTail e (.Slice none none (some (.UnaryOp .USub (.Constant (.int 1) k p1) p2)) p3) v (.ref s4.heap.objs.size)) (EP X pins σ Q) X.xe { s4 with heap := s4.heap.push { cls := .type "slice", data := .fields #[vl, vu, vs] } }
  have so := Heap.IsSliceOf.new s4.heap vl vu vs
  cases d with
  | str z =>
    cases h1
    obtain ⟨t, rfl⟩ := rx
    obtain ⟨hz, q1⟩ := q1
    cases ps with
    | int _ tk =>
      cases pl
      cases pu
      refine tail_any (ops := [.str z t, .ref s4.heap.objs.size]) (typeIs_str _ _ _) (PySem.F.slot_str_getitem.lookup) ?_ (by with_unfolding_all rfl)
      refine wpAny_getItem_str_slice (l := none) (u := none) (st := some (-1, tk)) ⟨_, Heap.get?_push_size _ rfl, rfl, rfl⟩ (by rfl) (post_val_or_str ⟨Nat.le_trans (Txt.sliceBy_le z none none (-1, tk) (by show (-1 : Int) ≠ 0; decide)) hz, fun t' c => ?_⟩)
      have fin : EP X pins σ Q (.str (revS z) t') { s4 with heap := s4.heap.push { cls := .type "slice", data := .fields #[.none, .none, .int (-1) tk] }, toks := c } := ⟨.str (revS z), Z4, I5.tok c, ⟨_, rfl⟩, fin_str le1 hs1 q1⟩
      rw [← revS_by z tk] at fin
      exact fin
  | tup ds =>
    obtain ⟨a, xs, e1, h1, g1⟩ := h1
    subst e1
    cases rx
    obtain ⟨its, r, ht, hz⟩ := I5.tuple h1
    refine tail_any (ops := [.ref a, .ref s4.heap.objs.size]) ht.typeIs (PyProof.Rows.slot_tuple_getitem.lookup) ?_ (by with_unfolding_all rfl)
    refine getItem_tuple_back ht so pl pu ps ?_ (by rw [List.size_toArray, ← r.length]; exact hz)
    refine ⟨.ref _, _, I5.laid (t' := s4.toks) (o := .tup xs.reverse) (fun b ob z => Heap.get?_push_of_some _ z) (Nat.le_refl _) ?_, rfl, new_tup le1 hs1 g1.reverse q1 _ (I5.hok.fresh (Nat.le_refl _))⟩
    exact ⟨by rw [List.length_reverse]; exact hz, _, r.reverse, IsTup.new _ _⟩
  | ref a =>
    cases h1
    cases rx
    obtain ⟨ds, rd, q1⟩ := q1
    obtain ⟨xs, h1, g1⟩ := hs1.rd rd
    obtain ⟨its, r, ht, hz⟩ := I5.list h1
    refine tail_any (ops := [.ref a, .ref s4.heap.objs.size]) ht.isList.typeIs (PySem.slot_list_getitem.lookup) ?_ (by with_unfolding_all rfl)
    refine wpAny_getItem_list_slice ht.isList so pl pu ps (by decide) ?_ (by rw [List.size_toArray, ← r.length]; exact hz)
    rw [PySem.W.krv_pick]
    refine ⟨.ref _, _, I5.laid (t' := s4.toks) (o := .lst xs.reverse) (fun b ob z => Heap.get?_push_of_some _ z) (Nat.le_refl _) ?_, rfl, new_lst le1 hs1 g1.reverse q1 _ (I5.hok.fresh (Nat.le_refl _))⟩
    exact ⟨by rw [List.length_reverse]; exact hz, _, 0, r.reverse, Heap.get?_push_size _ rfl⟩
  | _ => exact False.elim q1
end
end DL

/-! DL9: enumerate over tuples and lists -/
namespace DL
open PySem PySem.Spec PyProof.Rows L2

section
theorem meets_enum1 {v : Value} {o : Obj} {G : Heap → Prop} (B : Begins v o G) :
    Meets (Builtin.«enumerate.__new__» ⟨[.type "enumerate", v], []⟩) (fun _ R s => G s.heap ∧
      R (.ok (.ret (.ref (s.heap.push o).objs.size))) { s with heap := (s.heap.push o).push { cls := .type "enumerate", data := .fields #[.none, .bool false, .ref s.heap.objs.size, rawInt 0, .none, .none] } }) :=
  .of_wp fun prog w A R s h => by
    obtain ⟨hp, g, d, tk, os⟩ := s
    obtain ⟨h1, h⟩ := h
    have hsub := sub_enumerate
    have it : ∀ {A' : Around} {E : Value → Shared → Prop} {Q : Value → Shared → Prop}, Q (.ref hp.objs.size) ⟨hp.push o, g, d, tk, os⟩ → wpAny (model prog w) A' (pyIter v) Q E ⟨hp, g, d, tk, os⟩ :=
      fun q => B.iter prog w _ _ ⟨hp, g, d, tk, os⟩ _ h1 q
    wp_walk using it
    refine wpAny_stack_any fun st => wpAny_pure ?_
    split
    · rename_i c _ _ _ _ _
      cases (c == Value.type "enumerate") <;> (wp_walk using it; exact ⟨_, rfl, h⟩)
    · wp_walk using it
      exact ⟨_, rfl, h⟩
variable {prog : Program} {w : World} {A : Around} {E : Value → Shared → Prop} {s : Shared}
theorem call_enum1 {v : Value} {o : Obj} {G : Heap → Prop} {Q : Value → Shared → Prop} (B : Begins v o G) (h1 : G s.heap)
    (h : ∀ h', IsEnum h' (s.heap.objs.size + 1) s.heap.objs.size 0 .none → h'.get? s.heap.objs.size = some o → (∀ b ob, s.heap.get? b = some ob → h'.get? b = some ob) → Q (.ref (s.heap.objs.size + 1)) { s with heap := h' }) :
    wpAny (model prog w) A (call (.type "enumerate") [v]) Q E s := by
  have hz : (s.heap.push o).objs.size = s.heap.objs.size + 1 := Heap.size_push ..
  have he := Heap.get?_push_size (s.heap.push o) (o := { cls := .type "enumerate", data := .fields #[.none, .bool false, .ref s.heap.objs.size, rawInt 0, .none, .none] }) rfl
  rw [hz] at he
  refine callType_new F.called_enumerate (by decide) (F.typeCall_enumerate_1 _) (F.newCall_enumerate_1 _) (fun obj => F.args_object_init_2 obj _) F.entry_enumerate_new (meets_enum1 B) ⟨h1, ?_⟩
  show _ ∧ _
  rw [hz]
  exact ⟨⟨_, he, rfl⟩, h _ he (Heap.get?_push_of_some _ (Heap.get?_push_size _ B.free)) fun b ob x => Heap.get?_push_of_some _ (Heap.get?_push_of_some _ x)⟩
end

/-- the tuple at a, each item in a new pair -/
def ItE (K : PySem.W.Frag) (a : Addr) : It :=
  ⟨fun i H => ∃ (xs : List V) (x : V), SqT K H a xs ∧ xs[i]? = some x, fun i H v H' => ∃ T x, v = .ref T ∧ H T = none ∧ H' = upd H T (.tup [.int (i : Nat), x]) ∧ ∀ xs, SqT K H a xs → xs[i]? = some x, fun i H => ∃ xs : List V, SqT K H a xs ∧ xs.length = i⟩
theorem pair_mem {b e it : Addr} (hb : b ∈ [e, it]) : b = e ∨ b = it := by simpa using hb
theorem turn_enumT {P : Program} {w : World} {K : PySem.W.Frag} {elts : List Expr} {kk : Nat} {tpos : Pos} (a e it : Addr) (hne : e ≠ it) (hae : a ≠ e) (hai : a ≠ it) :
    Turn P w K (.Tuple elts kk tpos) (ItE K a) [e, it] e (fun i h => (∃ old, IsEnum h e it ((i : Nat) : Int) old) ∧ h.IsTupleIter it a i) where
  mem := by simp
  obj := fun i h ⟨⟨old, he⟩, ⟨o, ho, hc, hd⟩⟩ b hb => by
    rcases pair_mem hb with z | z
    · rw [z]; exact ⟨_, he, fun v q => nomatch q⟩
    · rw [z]; exact ⟨o, ho, fun v q => by rw [hd] at q; cases q⟩
  keep := fun i h h' ⟨⟨old, he⟩, hi⟩ k => ⟨⟨old, k e (by simp) _ he⟩, hi.at fun o q => k it (by simp) o q⟩
  item := by
    intro X hP hw hK hc i pins s σ H E I hf ⟨⟨old, he⟩, hit⟩ ⟨xs, x, hq, hx⟩
    subst hP hw hK
    obtain ⟨its, rv, p, hz⟩ := I.tuple hq
    obtain ⟨u, hu, ru⟩ := rv.get hx
    have l1 : e < s.heap.objs.size := Heap.lt_size he
    have l2 : it < s.heap.objs.size := by obtain ⟨_, q, _⟩ := hit; exact Heap.lt_size q
    have hi : i < its.toArray.size := by
      have := (List.getElem?_eq_some_iff.mp hu).1
      simpa using this
    refine wpAny_pyNext_enum_itemC (c := (i : Int)) (St := fun i h => h.IsTupleIter it a i ∧ h.IsTuple a its.toArray) (fp := [it, a]) (Draws.tuple (show X.A.in1.handled = none from I.ok.hd hc) it a hai its.toArray) he ⟨hit, p⟩ hi hne (by simp; exact ⟨hne, Ne.symm hae⟩) fun y h' tk hy ho hst hT hsz hk => ?_
    have hy : its.toArray[i]? = some y := hy
    have ey : y = u := by
      rw [List.getElem?_toArray, hu] at hy
      exact (Option.some.inj hy).symm
    subst ey
    refine ⟨_, rfl, wpAny_letOwnedTupleGo_enum (s := { s with heap := h', toks := tk + 1 }) ho fun h2 he2 sb => ?_⟩
    have hT2 : h2.get? s.heap.objs.size = some { cls := .type "tuple", data := .seq #[.int i tk, y] } := (sb.2 _ (Nat.ne_of_gt l1)).trans hT
    have new : ObjOk X.prog X.w (upd H s.heap.objs.size (.tup [.int (i : Nat), x])) h2 s.heap.objs.size (.tup [.int (i : Nat), x]) :=
      ⟨by show 2 ≤ sizeLine; decide, [.int i tk, y], .cons ⟨_, rfl⟩ (.cons ru .nil), ⟨_, hT2, rfl, _, rfl⟩⟩
    have I1 : Inv X pins σ (upd H s.heap.objs.size (.tup [.int (i : Nat), x])) { s with heap := h2, toks := tk + 1 } :=
      I.turnedNew (ch := [e, it]) (fun b ob hb q => (sb.2 b (fun z => hb (by simp [z]))).trans (hk b ob (fun z => hb (by simp [z])) (fun z => hb (by simp [z])) q)) hf (Nat.le_refl _) new
    refine ⟨.ref s.heap.objs.size, _, I1, rfl, ⟨_, x, rfl, I.hok.fresh (Nat.le_refl _), rfl, fun ys hy => by rw [I.tuple_inj hy hq]; exact hx⟩, ⟨⟨y, ?_⟩, hst.1.at fun o q => (sb.2 it (Ne.symm hne)).trans q⟩, fun b hb => ?_⟩
    · rw [show ((i + 1 : Nat) : Int) = (i : Int) + 1 by omega]; exact he2
    · have lb : b < s.heap.objs.size := by rcases pair_mem hb with z | z <;> (rw [z]; assumption)
      rw [upd_ne (Nat.ne_of_lt lb)]
      exact (hf b hb).1
  done := by
    intro X hP hw hK hc i pins s σ H E I hf ⟨⟨old, he⟩, hit⟩ ⟨xs, hq, hx⟩
    subst hP hw hK
    obtain ⟨its, rv, p, hz⟩ := I.tuple hq
    obtain ⟨f0, f1, f2, f3, f4, f5⟩ := hf it (by simp)
    have hl : its.toArray.size = i := by rw [List.size_toArray, ← rv.length]; exact hx
    subst hl
    exact wpAny_pyNext_enum_endD (St := fun i h => h.IsTupleIter it a i ∧ h.IsTuple a its.toArray) (Draws.tuple (show X.A.in1.handled = none from I.ok.hd hc) it a hai its.toArray) he ⟨hit, p⟩ fun h' eb => ⟨rfl, I.turned (t' := s.toks) (fun b o hb q => eb b o hb q) f0 f1 f3 f4 f5⟩
  self := fun A i s Q E ⟨⟨_, he⟩, _⟩ h => wpAny_pyIter_enum he h
def iEnumT (K : PySem.W.Frag) (ta : TA) : TI := fun σ H R => ta σ H fun vs H1 => ∃ a xs, vs = [.ref a] ∧ SqT K H1 a xs ∧ R (ItE K a) H1
section
variable {X : Cx} {e : Expr} {p pos tpos : Pos} {elts : List Expr} {kk : Nat}
theorem pi_enumT {ta : TA} (hg : Gl X "enumerate") (hm : X.mg "enumerate" = none) (ha : PA X [e] ta) (hs : starEach [e] X.env = [(false, eval e X.env)] := by rfl) : PI X (.Tuple elts kk tpos) (.Call (.Name "enumerate" p) [e] [] pos) (iEnumT X.K ta) := by
  refine ⟨fun pins s σ H R I h => ?_⟩
  refine Call_ (ld_blt I hg hm boot_enumerate (PyProof.Rows.callWith_type1 (thn (ha.run pos pins s σ H _ I h) fun us s1 ⟨vs, H1, I1, r1, a, xs, ex, hq, q⟩ => ?_) hs rfl))
  subst ex
  cases r1 with
  | cons r rr =>
    cases rr
    cases r
    obtain ⟨its, rv, pt, hz⟩ := I1.tuple hq
    have la : a < s1.heap.objs.size := pt.lt
    refine call_enum1 (begins_tuple a its.toArray) pt fun h' he hit hk => wpAny_pyIter_enum he ?_
    have I2 : Inv X pins σ H1 { s1 with heap := h' } := I1.kept (t' := s1.toks) hk
    refine ⟨s1.heap.objs.size + 1, [s1.heap.objs.size + 1, s1.heap.objs.size], _, _, H1, rfl, I2, turn_enumT a _ s1.heap.objs.size (Nat.succ_ne_self _) (Nat.ne_of_lt (Nat.lt_succ_of_lt la)) (Nat.ne_of_lt la), ⟨⟨.none, he⟩, ⟨_, hit, rfl, rfl⟩⟩, fun b hb => ?_, q⟩
    have lb : s1.heap.objs.size ≤ b := by rcases pair_mem hb with z | z <;> (rw [z]; first | exact Nat.le_add_right _ _ | exact Nat.le_refl _)
    exact I1.fpOk lb (I1.hok.fresh lb)
/-- (0, x0), (1, x1), .. -/
def enumD : Nat → List D → List D
  | _, [] => []
  | n, d :: ds => .tup [.int (n : Nat), d] :: enumD (n + 1) ds
theorem enumD_length : ∀ (n : Nat) (ds : List D), (enumD n ds).length = ds.length
  | _, [] => rfl
  | n, _ :: ds => by rw [enumD, List.length_cons, List.length_cons, enumD_length]
theorem enumD_get : ∀ (n : Nat) (ds : List D) (i : Nat) (d : D), ds[i]? = some d → (enumD n ds)[i]? = some (.tup [.int ((n + i : Nat) : Int), d])
  | _, [], _, _, h => by simp at h
  | n, a :: ds, 0, d, h => by
    have h : a = d := Option.some.inj h
    subst h
    rfl
  | n, a :: ds, i + 1, d, h => by
    have := enumD_get (n + 1) ds i d (by simpa using h)
    rw [show n + (i + 1) = n + 1 + i by omega]
    exact this
theorem wf_enumT {K : PySem.W.Frag} {H0 : Hp} {a : Addr} {xs : List V} {ds : List D} (q : SqT K H0 a xs) (r : DvA K H0 ds xs) : WalkF K H0 (ItE K a) (enumD 0 ds) (fun _ => True) where
  goes := fun i H S t hi _ _ => by
    rw [enumD_length, r.length] at hi
    exact ⟨xs, xs[i], t a xs q, by simp [hi]⟩
  stops := fun H S t _ _ => ⟨xs, t a xs q, by rw [enumD_length, r.length]⟩
  yields := fun i H x H' S t hi hs _ ⟨T, y, e1, n, e2, g⟩ => by
    subst e1 e2
    rw [enumD_length] at hi
    obtain ⟨v, g1, g2⟩ := r.get (i := i) (d := ds[i]) (by simp [hi])
    have g := g xs (t a xs q)
    rw [g1] at g
    cases g
    have t2 : TupLe K H (upd H T (.tup [.int (i : Nat), y])) := tl_new n
    refine ⟨_, enumD_get 0 ds i ds[i] (by simp [hi]), t2, hs.newT n, T, _, rfl, SqT.of upd_same, .cons ?_ (.cons ((g2.mono t).mono t2) rfl)⟩
    rw [Nat.zero_add]
    rfl
theorem wf_enumL {K : PySem.W.Frag} {H0 : Hp} {a : Addr} {ds : List D} : WalkF K H0 (Ite K a) (enumD 0 ds) (fun S => rdL S a ds) where
  goes := fun i H S t hi hs h => by
    obtain ⟨xs, h1, h2⟩ := hs.rd h
    rw [enumD_length, h2.length] at hi
    exact ⟨xs, xs[i], h1, by simp [hi]⟩
  stops := fun H S t hs h => by
    obtain ⟨xs, h1, h2⟩ := hs.rd h
    exact ⟨xs, h1, by rw [enumD_length, h2.length]; exact Nat.le_refl _⟩
  yields := fun i H x H' S t hi hs h ⟨T, y, e1, n, e2, g⟩ => by
    subst e1 e2
    obtain ⟨xs, h1, h2⟩ := hs.rd h
    rw [enumD_length] at hi
    obtain ⟨v, g1, g2⟩ := h2.get (i := i) (d := ds[i]) (by simp [hi])
    have g := g xs h1
    rw [g1] at g
    cases g
    have t2 : TupLe K H (upd H T (.tup [.int (i : Nat), y])) := tl_new n
    refine ⟨_, enumD_get 0 ds i ds[i] (by simp [hi]), t2, hs.newT n, T, _, rfl, SqT.of upd_same, .cons ?_ (.cons (g2.mono t2) rfl)⟩
    rw [Nat.zero_add]
    rfl
def dEnT (ta : DTA) : DTI := fun τ S Z => ta τ S fun ds S1 => ∃ xs, ds = [.tup xs] ∧ Z (enumD 0 xs) (fun _ => True) S1
def dEnL (ta : DTA) : DTI := fun τ S Z => ta τ S fun ds S1 => ∃ a xs, ds = [.ref a] ∧ rdL S1 a xs ∧ Z (enumD 0 xs) (fun S => rdL S a xs) S1
theorem di_enumT {ta : DTA} (hg : Gl X "enumerate") (hm : X.mg "enumerate" = none) (ha : DA X [e] ta) (hs : starEach [e] X.env = [(false, eval e X.env)] := by rfl) : DI X (.Tuple elts kk tpos) (.Call (.Name "enumerate" p) [e] [] pos) (dEnT ta) :=
  imI (pi_enumT hg hm ha hs) fun σ H R ⟨τ, S, Z, r, hs, q, le⟩ =>
  ⟨τ, S, _, r, hs, q, fun vs H1 ds S1 t1 hs1 h1 ⟨xs, e1, q1⟩ => by
    subst e1
    obtain ⟨v, e2, a, ys, e3, g1, g2⟩ := v1 h1
    subst e3
    exact ⟨a, ys, e2, g1, le _ H1 _ _ S1 t1 hs1 (wf_enumT g1 g2) q1⟩⟩
theorem di_enumL {ta : DTA} (hg : Gl X "enumerate") (hm : X.mg "enumerate" = none) (ha : DA X [e] ta) (hs : starEach [e] X.env = [(false, eval e X.env)] := by rfl) : DI X (.Tuple elts kk tpos) (.Call (.Name "enumerate" p) [e] [] pos) (dEnL ta) :=
  imI (pi_enum hg hm ha hs) fun σ H R ⟨τ, S, Z, r, hs, q, le⟩ =>
  ⟨τ, S, _, r, hs, q, fun vs H1 ds S1 t1 hs1 h1 ⟨a, xs, e1, rd, q1⟩ => by
    subst e1
    obtain ⟨v, e2, g⟩ := v1 h1
    have g : v = .ref a := g
    subst g
    obtain ⟨ys, g1, g2⟩ := hs1.rd rd
    exact ⟨a, ys, e2, g1, le _ H1 _ _ S1 t1 hs1 wf_enumL q1⟩⟩
abbrev dEn (ta : DTA) : DTI := fun τ S Z => dEnT ta τ S Z ∨ dEnL ta τ S Z
theorem di_enum {ta : DTA} (hg : Gl X "enumerate") (hm : X.mg "enumerate" = none) (ha : DA X [e] ta) (hs : starEach [e] X.env = [(false, eval e X.env)] := by rfl) : DI X (.Tuple elts kk tpos) (.Call (.Name "enumerate" p) [e] [] pos) (dEn ta) := orI (di_enumT hg hm ha hs) (di_enumL hg hm ha hs)
end
end DL

/-! DL10: list(reversed(a list)) -/
namespace DL
open PySem PySem.Spec PyProof.Rows L2

section
variable {prog : Program} {w : World} {A : Around} {E : Value → Shared → Prop} {s : Shared}
theorem rev_extend {R : Result → Shared → Prop} {it l S : Addr} {items : Array Value} {c0 : Nat} {res : Value} (hh : A.handled = none) (hit : s.heap.IsRevIter it l ((items.size : Int) - 1)) (hl : s.heap.IsList l items) (hne : l ≠ it) (hn : items.size ≤ sizeLine)
    (hSi : S ≠ it) (hSl : S ≠ l) (hS : s.heap.get? S = some { cls := .type "list", data := .seq #[] c0 })
    (hR : ∀ (h' : Heap) (tk : Nat) (acc : Array Value) (c : Nat), (∀ b o, b ≠ it → b ≠ S → s.heap.get? b = some o → h'.get? b = some o) → h'.get? S = some { cls := .type "list", data := .seq acc c } → ItemsOf (fun i v => items[items.size - 1 - i]? = some v) acc items.size → R (.ok (.ret res)) { s with heap := h', toks := tk }) :
    wpAny (model prog w) A.in1 (Builtin.List.listExtendWith (.ref S) (.ref it) res)
      (fun fin s' => match fin with | .done f => R (.ok f) s' | .again c' => c'.quiet = true ∧ codeAny (model prog w) A c' R s') (fun e s' => R (.error e) s') s := by
  have W := (Walks.listRev (prog := prog) (w := w) (A := A.in1) hh it l hne items).toS
  have hSf : S ∉ [it, l] := by
    simp only [List.mem_cons, List.not_mem_nil, or_false, not_or]
    exact ⟨hSi, hSl⟩
  have hT : s.TypeIs (.ref it) "list_reverseiterator" := hit.typeIs
  have ne : Builtin.List.listSameRef (.ref S) (.ref it) = false := by simp [Builtin.List.listSameRef, hSi]
  unfold Builtin.List.listExtendWith
  refine wpAny_bind (wpAny_typeOf hT ?_)
  rw [if_neg (by rw [ne]; decide)]
  refine wpAny_bind (wpAny_pyIter_revIter hit (wpAny_bind (wpAny_holding ?_)))
  unfold Builtin.List.listLengthHint
  refine wpAny_bind (wpAny_specialOf hT RT.nolen_lri ?_)
  show wpAny _ A.in1 (specialOf (Value.ref it) (Str.ofString "__length_hint__") >>= _) _ _ _
  refine wpAny_bind (wpAny_specialOf hT RT.hint_lri ?_)
  generalize hid : ("list_reverseiterator.__length_hint__" : String) = id0
  wp_delta
  rw [show splitId id0 = some ("list_reverseiterator", "__length_hint__") from by subst hid; decide +kernel]
  subst hid
  refine wpAny_bind (wpAny_isInstance (b := true) hT (by rw [isSubtype_type]; kernel_rfl) (wpAny_pure ?_))
  rw [if_neg (by decide)]
  have e0 : ((items.size : Nat) : Int) - 1 - ((0 : Nat) : Int) = (items.size : Int) - 1 := by omega
  refine wpAny_pure ⟨plainId_quiet PySem.F.plain_extend_loop _, codeAny_extend_loopS W hn _ hSf _ items.size 0 _ _ _ rfl (Nat.zero_le _) ⟨Nat.zero_le _, by rw [e0]; exact hit, hl⟩ hS (ItemsOf.nil _) fun s' acc' c' hm hS' hacc => ?_⟩
  rw [Moved.eq_with hm]
  refine hR s'.heap s'.toks acc' c' (fun b o h1 h2 e => hm.heap b o (fun hmem => ?_) e) hS' hacc
  rcases List.mem_cons.mp hmem with e' | hmem
  · exact h2 e'
  · exact h1 (List.mem_singleton.mp hmem)
theorem call_list_rev {Q : Value → Shared → Prop} {it l : Addr} {items : Array Value} (hh : A.handled = none) (hit : s.heap.IsRevIter it l ((items.size : Int) - 1)) (hl : s.heap.IsList l items) (hne : l ≠ it) (hn : items.size ≤ sizeLine)
    (hQ : ∀ (h' : Heap) (tk : Nat) (acc : Array Value) (c : Nat), (∀ b o, b ≠ it → s.heap.get? b = some o → h'.get? b = some o) → h'.get? s.heap.objs.size = some { cls := .type "list", data := .seq acc c } → ItemsOf (fun i v => items[items.size - 1 - i]? = some v) acc items.size →
      Q (.ref s.heap.objs.size) { s with heap := h', toks := tk }) : wpAny (model prog w) A (call (.type "list") [.ref it]) Q E s := by
  refine callType_codes (Q₁ := fun obj s₁ => obj = .ref s.heap.objs.size ∧ s₁ = { s with heap := s.heap.push { cls := .type "list", data := .seq #[] } }) PySem.F.called_list (PySem.F.typeCall_list_1 _) PySem.F.entry_list_init (code_list_new _ ⟨rfl, rfl⟩) ?_
  rintro obj s1 ⟨rfl, rfl⟩
  have hS : (s.heap.push { cls := .type "list", data := .seq #[] }).get? s.heap.objs.size = some { cls := .type "list", data := .seq #[] } := Heap.get?_push_size _ rfl
  have l1 : it < s.heap.objs.size := by obtain ⟨_, ho, _⟩ := id hit; exact Heap.lt_size ho
  have l2 : l < s.heap.objs.size := by obtain ⟨_, ho, _⟩ := id hl; exact Heap.lt_size ho
  refine ⟨⟨_, hS, rfl⟩, PySem.F.args_list_init_2 _ _, ?_⟩
  show wpAny _ _ (do let old ← Builtin.List.listItems (.ref s.heap.objs.size); Builtin.List.listUpdate (.ref s.heap.objs.size) (fun _ => #[]); letGo old.toList.reverse; Builtin.List.listExtendWith (.ref s.heap.objs.size) (.ref it) .none) _ _ _
  refine wpAny_bind ?_
  unfold Builtin.List.listItems
  refine wpAny_bind (wpAny_seqItems hS rfl (wpAny_pure ?_))
  show wpAny _ _ (updateSeq s.heap.objs.size (fun _ => #[]) >>= fun _ => letGo (#[] : Array Value).toList.reverse >>= fun _ => Builtin.List.listExtendWith (.ref s.heap.objs.size) (.ref it) .none) _ _ _
  refine wpAny_bind (wpAny_updateSeq hS rfl ?_)
  have hS2 := Heap.get?_update_self (Obj.mapSeq (fun _ => (#[] : Array Value))) hS rfl
  have oth : ∀ b o, b ≠ s.heap.objs.size → s.heap.get? b = some o → ((s.heap.push { cls := .type "list", data := .seq #[] }).update s.heap.objs.size (Obj.mapSeq (fun _ => (#[] : Array Value)))).get? b = some o :=
    fun b o hb e => (Heap.get?_update_other _ _ (Ne.symm hb)).trans (Heap.get?_push_of_some _ e)
  refine wpAny_bind (wpAny_letGo (rev_extend (A := A.in1) hh (hit.at fun o e => oth it o (Nat.ne_of_lt l1) e) (by obtain ⟨o, ho, r⟩ := hl; exact ⟨o, oth l o (Nat.ne_of_lt l2) ho, r⟩) hne hn (Nat.ne_of_gt l1) (Nat.ne_of_gt l2) hS2 fun h' tk acc c hk hS' hacc => ?_))
  exact ⟨rfl, hQ h' tk acc c (fun b o hb e => hk b o hb (Nat.ne_of_lt (Heap.lt_size e)) (oth b o (Nat.ne_of_lt (Heap.lt_size e)) e)) hS' hacc⟩
end
section
variable {X : Cx}
def rRevL : DR1 := fun x S R => match x with
  | .ref a => ∃ ds, rdL S a ds ∧ ∀ p, Fresh S p → R (.ref p) (S.set p (.lst ds.reverse))
  | _ => False
theorem de_listRev {e : Expr} {te : DTE} {p p2 pos pos2 : Pos} (hc : X.calm = true) (hg : Gl X "list") (hm : X.mg "list" = none) (hg2 : Gl X "reversed") (hm2 : X.mg "reversed" = none) (he : DE X e te) (hs : starEach [e] X.env = (false, eval e X.env) :: starEach [] X.env := by rfl)
    (hs2 : starEach [.Call (.Name "reversed" p2) [e] [] pos2] X.env = (false, eval (.Call (.Name "reversed" p2) [e] [] pos2) X.env) :: starEach [] X.env := by rfl) :
    DE X (.Call (.Name "list" p) [.Call (.Name "reversed" p2) [e] [] pos2] [] pos) (dUn rRevL te) := by
  refine ⟨fun pins s σ H Q I ⟨τ, S, R, r0, hS, q, le⟩ => ?_⟩
  have run := he.run pins s σ H (fun x H1 => l1 X.K rRevL x H1 Q) I ⟨τ, S, _, r0, hS, q, fun v H1 d S1 t1 hs1 h1 q1 => ⟨d, S1, R, h1, hs1, q1, le.then t1⟩⟩
  refine Call_ (ld_blt I hg hm PyProof.Rows.boot_list (PyProof.Rows.callWith_type1 (args_cons (Call_ (ld_blt I hg2 hm2 PyProof.Rows.boot_reversed (PyProof.Rows.callWith_type1 (args_cons (thn run fun u s1 ⟨v, H1, I1, r1, d, S1, R1, h1, hs1, q1, le1⟩ => args_nil ?_) hs) hs rfl))) hs2) hs2 rfl))
  cases d with
  | ref a =>
    cases h1
    obtain rfl : u = Value.ref a := r1
    obtain ⟨ds, rd, q1⟩ := q1
    obtain ⟨xs, hq, g1⟩ := hs1.rd rd
    obtain ⟨its, rv, pl, hz⟩ := I1.list hq
    refine call_reversed_list pl.isList (args_nil ?_)
    have I2 : Inv X pins σ H1 { s1 with heap := s1.heap.push (revObj a ((its.toArray.size : Int) - 1)) } := I1.kept (t' := s1.toks) fun b o e => Heap.get?_push_of_some _ e
    have fp := I1.fpOk (H' := H1) (b := s1.heap.objs.size) (Nat.le_refl _) (I1.hok.fresh (Nat.le_refl _))
    have hl := pl.isList
    have la : a < s1.heap.objs.size := by obtain ⟨_, ho, _⟩ := id hl; exact Heap.lt_size ho
    refine call_list_rev (s := { s1 with heap := s1.heap.push (revObj a ((its.toArray.size : Int) - 1)) }) (I1.ok.hd hc) ⟨_, Heap.get?_push_size _ rfl, rfl, rfl⟩ (hl.push _) (Nat.ne_of_lt la) (by rw [List.size_toArray, ← rv.length]; exact hz) fun h' tk acc c hk hS' hi => ?_
    have fr : H1 (s1.heap.push (revObj a ((its.toArray.size : Int) - 1))).objs.size = none := I2.hok.fresh (Nat.le_refl _)
    refine ⟨.ref _, upd H1 (s1.heap.push (revObj a ((its.toArray.size : Int) - 1))).objs.size (.lst xs.reverse), I2.turnedNew (t' := tk) (ch := [s1.heap.objs.size]) (fun b o hb e => hk b o (by simpa using hb) e) (fun b hb => ?_) (Nat.le_refl _) ⟨by rw [List.length_reverse]; exact hz, acc.toList, c, RT.vals_rev rv hi, by rw [Array.toArray_toList]; exact hS'⟩, rfl, new_lst le1 hs1 g1.reverse q1 _ fr⟩
    have eb : b = s1.heap.objs.size := by simpa using hb
    subst eb
    exact fp
  | _ => exact False.elim q1
end
end DL

/-! DL11: callees in short -/
namespace DL
open PySem PySem.Spec PyProof.Rows L2

/-- a def of the top that keeps its promise at a level -/
structure Callee (P : Program) (w : World) (K : PySem.W.Frag) (mg : Str → Option Value) (base : Heap) (k : Nat) (x : Str) (st : Stmt) (ps : List Str) (sp : DSp) : Prop where
  ex : ∃ (f : Addr) (fd : FuncData), Fun K x x st f fd ∧ mg x = some (.ref f) ∧ FnD P w K mg base k f fd ps sp ∧ Binds K fd ps []
/-- a def of the top as it stands -/
structure Def (K : PySem.W.Frag) (mg : Str → Option Value) (x : Str) (st : Stmt) (ps : List Str) : Prop where
  ex : ∃ (f : Addr) (fd : FuncData), Fun K x x st f fd ∧ mg x = some (.ref f) ∧ Binds K fd ps []
theorem Def.mk' {K : PySem.W.Frag} {h : Heap} {mg : Str → Option Value} {x : Str} {st : Stmt} {ps : List Str} {f : Addr} {oc : Value} {od an : Option Addr} {osl : Array (Option Value)} {kV doc pm cdv ct : Value} (X : K.In h) (G : h.Ns mainGlobals mg)
    (hb : ∀ (kV doc pm : Value) (an : Option Addr) (cdv ct : Value) (us : List Value), us.length = ps.length → bindArgs (PySem.W.fnOf x x (defArgs st) (defBody st) (defScope st) .none kV doc pm an cdv ct) ⟨us, []⟩ = pure (ps.zip us))
    (a : PySem.W.nsIn K mainGlobals x = some (some (.ref f))) (l : K.lookup f = some ⟨oc, od, .func (PySem.W.fnOf x x (defArgs st) (defBody st) (defScope st) .none kV doc pm an cdv ct), osl⟩)
    (c : PySem.W.codeIn K cdv x = true) (k : PySem.W.keepIn K (.ref f) = true) : Def K mg x st ps :=
  ⟨f, _, fun_mk l c k, PySem.W.mg_of X G a, (fun_mk l c k).binds hb⟩
section
variable {P : Program} {w : World} {K : PySem.W.Frag} {mg : Str → Option Value} {base : Heap} {k : Nat} {x : Str} {st : Stmt} {ps N : List Str} {sp : DSp} {t : DTS}
theorem Def.keeps (F : Def K mg x st ps) (Sc : FnScope N ps (defScope st)) (len : ∀ ds S R, sp ds S R → ds.length = ps.length)
    (hb : ∀ (f : Addr) (cdv : Value) (A : Around) (outer : List Env) (s : Shared) (H : Hp) (E : XK), Room k (bodyX P w K mg base N x st f cdv A outer s H E).A → (bodyX P w K mg base N x st f cdv A outer s H E).A.guards = some [] → DSs (bodyX P w K mg base N x st f cdv A outer s H E) (defBody st) t)
    (read : ∀ ds S R, sp ds S R → t { nx := fun _ S' => R .non S', rt := R } (dstart N ds) S) : Callee P w K mg base (k + 1) x st ps sp := by
  obtain ⟨f, fd, F, hm, b⟩ := F.ex
  exact ⟨f, fd, F, hm, fnD_of F Sc len (hb f) read, b⟩
theorem Callee.imp {sp' : DSp} (c : Callee P w K mg base k x st ps sp) (h : ∀ ds S R, sp' ds S R → sp ds S R) : Callee P w K mg base k x st ps sp' := by
  obtain ⟨f, fd, F, hm, G, b⟩ := c.ex
  refine ⟨f, fd, F, hm, ⟨fun vs H Q E ⟨ds, S, R, h1, h2, h3, h4⟩ => G.len vs H Q E ⟨ds, S, R, h1, h2, h _ _ _ h3, h4⟩, fun A o s H ar us vs Q E r g e0 b0 rv ⟨ds, S, R, h1, h2, h3, h4⟩ => G.go A o s H ar us vs Q E r g e0 b0 rv ⟨ds, S, R, h1, h2, h _ _ _ h3, h4⟩⟩, b⟩
end
section
variable {X : Cx} {j k : Nat} {x : Str} {st : Stmt} {ps : List Str} {sp : DSp} {p pos : Pos} {e : Expr} {es : List Expr} {t : DTA}
theorem de_cal (c : Callee X.prog X.w X.K X.mg X.base k x st ps sp) (hr : Room j X.A) (hj : k ≤ j) (gd : X.A.guards = some []) (hg : Gl X x) (ha : DA X (e :: es) t)
    (hdb : (x == ("__debug__" : Str)) = false := by decide) (he : starEach (e :: es) X.env = (false, eval e X.env) :: starEach es X.env := by rfl) (hpl : (backTo pos (starEach es X.env)).any (·.1) = false := by rfl) : DE X (.Call (.Name x p) (e :: es) [] pos) (dCall sp t) := by
  obtain ⟨f, fd, F, hm, G, b⟩ := c.ex
  exact de_call G (hr.mono hj) gd hg hm F.kp b ha hdb he hpl
theorem de_cal0 (c : Callee X.prog X.w X.K X.mg X.base k x st ps sp) (hr : Room j X.A) (hj : k ≤ j) (gd : X.A.guards = some []) (hg : Gl X x)
    (hdb : (x == ("__debug__" : Str)) = false := by decide) : DE X (.Call (.Name x p) [] [] pos) (dCall sp dNil) := by
  obtain ⟨f, fd, F, hm, G, b⟩ := c.ex
  exact de_call0 G (hr.mono hj) gd hg hm F.kp b hdb
theorem de_calK {ks : List Str} {π : List Nat} {kws : List Keyword} (c : Callee X.prog X.w X.K X.mg X.base k x st ps sp) (hr : Room j X.A) (hj : k ≤ j) (gd : X.A.guards = some []) (hg : Gl X x)
    (hb : ∀ (kV doc pm : Value) (an : Option Addr) (cdv ct : Value) (ws : List Value), ws.length = ks.length → bindArgs (PySem.W.fnOf x x (defArgs st) (defBody st) (defScope st) .none kV doc pm an cdv ct) ⟨[], ks.zip ws⟩ = pure (ps.zip (perm π Value.none ws)))
    (hπ : π.all (fun i => decide (i < ks.length)) = true) (ha : DKw X kws t) (hks : (backToKw pos (keywordEach kws X.env)).filterMap (·.1) = ks := by rfl) (hall : (backToKw pos (keywordEach kws X.env)).all (·.1.isSome) = true := by rfl) (hdb : (x == ("__debug__" : Str)) = false := by decide)
    (hpl : ((backTo pos (starEach [] X.env)).any (·.1) || (backToKw pos (keywordEach kws X.env)).any (·.1.isNone)) = false := by rfl) : DE X (.Call (.Name x p) [] kws pos) (dCallK sp π ks.length t) := by
  obtain ⟨f, fd, F, hm, G, b⟩ := c.ex
  exact de_callK G (hr.mono hj) gd hg hm F.kp (kwB_of F hb) hπ ha hks hall hdb hpl
theorem huR (hr : Room k X.A) : X.A.units + 200 < cLine := by have := hr.un; omega
end
end DL

/-! DL12: chains of comparisons -/
namespace DL
open PySem PySem.Spec PyProof.Rows L2
section
variable {X : Cx} {a b c d : Expr} {ta tb tc td : DTE} {pos : Pos}
theorem dt_chain {op op' : CmpOp} {r r' : DR2} (ho : OpR X (compareOp op) (l2 X.K r)) (ho' : OpR X (compareOp op') (l2 X.K r')) (ha : DE X a ta) (hb : DE X b tb) (hc : DE X c tc) (hm : lastMarks [op, op'] [b, c] = false := by with_unfolding_all rfl) :
    DT X (.Compare a [op, op'] [b, c] pos) (dB (dChain r r' ta tb tc)) := imT (pt_chain ho ho' ha hb hc hm) fun σ H Q ⟨τ, S, R, r, hs, q, le⟩ => by
  refine chain_lift (K := X.K) ⟨τ, S, _, r, hs, q, fun v H1 d S1 t1 hs1 h1 ⟨c, e1, q1⟩ => ?_⟩
  subst e1
  exact ⟨c, h1, le c H1 S1 t1 hs1 q1⟩
def dChain3 (r1 r2 r3 : DR2) (ta tb tc td : DTE) : DTE := fun τ S R => ta τ S fun x S1 => tb τ S1 fun y S2 => r1 x y S2 fun k1 S3 => ∃ b1, k1 = .bl b1 ∧ if b1 = true then tc τ S3 fun z S4 => r2 y z S4 fun k2 S5 => ∃ b2, k2 = .bl b2 ∧ if b2 = true then td τ S5 fun u S6 => r3 z u S6 R else R (.bl false) S5 else R (.bl false) S3
def tCh3 (r1 r2 r3 : R2) (ta tb tc td : TE) : TE := fun σ H Q => ta σ H fun x H1 => tb σ H1 fun y H2 => r1 x y H2 fun z H3 => ∃ k, z = .bl k ∧ if k = true then tc σ H3 fun w H4 => r2 y w H4 fun z2 H5 => ∃ k2, z2 = .bl k2 ∧ (if k2 = true then td σ H5 fun u H6 => r3 w u H6 Q else Q (.bl false) H5) else Q (.bl false) H3
theorem pt_ch3 {o1 o2 o3 : CmpOp} {r1 r2 r3 : R2} {ta tb tc td : TE} (h1 : OpR X (compareOp o1) r1) (h2 : OpR X (compareOp o2) r2) (h3 : OpR X (compareOp o3) r3) (ha : PE X a ta) (hb : PE X b tb) (hc : PE X c tc) (hd : PE X d td)
    (hm : lastMarks [o1, o2, o3] [b, c, d] = false) : PT X (.Compare a [o1, o2, o3] [b, c, d] pos) (L2.tTest (tCh3 r1 r2 r3 ta tb tc td)) := by
  refine ⟨fun pins s σ H Q I h => ?_⟩
  refine isTrue_chain (thn (ha.run pins s σ H _ I h) fun v s1 ⟨x, H1, I1, rx, q1⟩ => test_link (thn (hb.run pins s1 σ H1 _ I1 q1) fun u s2 ⟨y, H2, I2, ry, q2⟩ => thn (h1 pins s2 σ H2 x y v u _ I2 rx ry q2) fun _ s3 ⟨_, H3, I3, r3', k, e3, q3⟩ => ?_)) hm
  subst e3
  cases r3'
  refine wpAny_truthy_bool ?_
  cases k with
  | false =>
    obtain ⟨k', e', q'⟩ := q3
    cases e'
    exact ite_ff ⟨H3, I3, q'⟩
  | true =>
    refine ite_tt (test_link (thn (hc.run pins s3 σ H3 _ I3 q3) fun w s4 ⟨z, H4, I4, rz, q4⟩ => thn (h2 pins s4 σ H4 y z u w _ I4 ry rz q4) fun _ s5 ⟨_, H5, I5, r5, k2, e5, q5⟩ => ?_))
    subst e5
    cases r5
    refine wpAny_truthy_bool ?_
    cases k2 with
    | false =>
      obtain ⟨k', e', q'⟩ := q5
      cases e'
      exact ite_ff ⟨H5, I5, q'⟩
    | true =>
      refine ite_tt (test_last (thn (hd.run pins s5 σ H5 _ I5 q5) fun w' s6 ⟨u', H6, I6, ru, q6⟩ => thn (h3 pins s6 σ H6 z u' w w' _ I6 rz ru q6) fun _ s7 ⟨_, H7, I7, r7, k3, e7, q7⟩ => ?_))
      subst e7
      cases r7
      exact wpAny_truthy_bool ⟨H7, I7, q7⟩
theorem ch3_lift {K : PySem.W.Frag} {r1 r2 r3 : DR2} {σ : L2.St} {H : Hp} {Q : VK} (h : lE K (dChain3 r1 r2 r3 ta tb tc td) σ H Q) : tCh3 (l2 K r1) (l2 K r2) (l2 K r3) (lE K ta) (lE K tb) (lE K tc) (lE K td) σ H Q := by
  obtain ⟨τ, S, R, r, hs, q, le⟩ := h
  refine ⟨τ, S, _, r, hs, q, fun v1 H1 d1 S1 t1 hs1 g1 q1 => ⟨τ, S1, _, r.mono t1, hs1, q1, fun v2 H2 d2 S2 t2 hs2 g2 q2 => ⟨d1, d2, S2, _, g1.mono t2, g2, hs2, q2, fun v3 H3 d3 S3 t3 hs3 g3 ⟨k, e3, q3⟩ => ?_⟩⟩⟩
  subst e3
  refine ⟨k, g3, ?_⟩
  have r3' := ((r.mono t1).mono t2).mono t3
  have t13 := (t1.trans t2).trans t3
  cases k with
  | false => rw [if_neg Bool.false_ne_true] at q3 ⊢; exact le _ H3 (.bl false) S3 t13 hs3 rfl q3
  | true =>
    rw [if_pos rfl] at q3 ⊢
    refine ⟨τ, S3, _, r3', hs3, q3, fun v4 H4 d4 S4 t4 hs4 g4 q4 => ⟨d2, d4, S4, _, (g2.mono t3).mono t4, g4, hs4, q4, fun v5 H5 d5 S5 t5 hs5 g5 ⟨k2, e5, q5⟩ => ?_⟩⟩
    subst e5
    refine ⟨k2, g5, ?_⟩
    have t15 := (t13.trans t4).trans t5
    cases k2 with
    | false => rw [if_neg Bool.false_ne_true] at q5 ⊢; exact le _ H5 (.bl false) S5 t15 hs5 rfl q5
    | true =>
      rw [if_pos rfl] at q5 ⊢
      exact ⟨τ, S5, _, (r3'.mono t4).mono t5, hs5, q5, fun v6 H6 d6 S6 t6 hs6 g6 q6 => ⟨d4, d6, S6, R, (g4.mono t5).mono t6, g6, hs6, q6, le.then (t15.trans t6)⟩⟩
theorem dt_chain3 {o1 o2 o3 : CmpOp} {r1 r2 r3 : DR2} (h1 : OpR X (compareOp o1) (l2 X.K r1)) (h2 : OpR X (compareOp o2) (l2 X.K r2)) (h3 : OpR X (compareOp o3) (l2 X.K r3)) (ha : DE X a ta) (hb : DE X b tb) (hc : DE X c tc) (hd : DE X d td) (hm : lastMarks [o1, o2, o3] [b, c, d] = false := by with_unfolding_all rfl) :
    DT X (.Compare a [o1, o2, o3] [b, c, d] pos) (dB (dChain3 r1 r2 r3 ta tb tc td)) := imT (pt_ch3 h1 h2 h3 ha hb hc hd hm) fun σ H Q ⟨τ, S, R, r, hs, q, le⟩ => by
  refine ch3_lift (K := X.K) ⟨τ, S, _, r, hs, q, fun v H1 d S1 t1 hs1 h1 ⟨c, e1, q1⟩ => ?_⟩
  subst e1
  exact ⟨c, h1, le c H1 S1 t1 hs1 q1⟩
end
end DL

/-! DL13: readings run from the head on -/
namespace DL
open PySem PySem.Spec PyProof.Rows L2

/-! ### texts by their signs -/
def mk (l : List Nat) : Str := ⟨l.toArray⟩
theorem mk_cps (l : List Nat) : (mk l).cps.toList = l := by simp [mk]
theorem mk_of (x : Str) : mk x.cps.toList = x := by cases x; simp [mk]
theorem mk_len (l : List Nat) : (mk l).length = l.length := by simp [mk, Str.length]
theorem mk_app (a b : List Nat) : mk a ++ mk b = mk (a ++ b) := by
  show Str.append _ _ = _
  simp [Str.append, mk]
theorem mk_inj {a b : List Nat} : mk a = mk b ↔ a = b := by
  constructor
  · intro h
    rw [← mk_cps a, h, mk_cps]
  · intro h; rw [h]
/-- l[lo:hi] -/
def cutN {α : Type} (l : List α) (lo hi : Option Int) : List α := (l.drop (HT.sIx l.length 0 lo)).take (HT.sIx l.length l.length hi - HT.sIx l.length 0 lo)
theorem cutS_mk (l : List Nat) (lo hi : Option Int) : cutS (mk l) lo hi = mk (cutN l lo hi) := by
  unfold cutS cutN
  rw [mk_len, mk_cps]
  rfl
theorem cutD_N (l : List D) (lo hi : Option Int) : cutD l lo hi = cutN l lo hi := rfl
theorem cutN_nn {α : Type} (l : List α) (i j : Nat) (hi : i ≤ j) (hj : j ≤ l.length) : cutN l (some (i : Int)) (some (j : Int)) = (l.drop i).take (j - i) := by
  unfold cutN
  rw [HT.sIx_nat, HT.sIx_nat, Nat.min_eq_left hj, Nat.min_eq_left (by omega)]
theorem cutN_nn' {α : Type} (l : List α) (i j : Nat) : cutN l (some (i : Int)) (some (j : Int)) = (l.drop i).take (j - i) := by
  unfold cutN
  rw [HT.sIx_nat, HT.sIx_nat]
  by_cases h : i ≤ l.length
  · have e : min i l.length = i := Nat.min_eq_left h
    rw [e]
    by_cases h2 : j ≤ l.length
    · rw [Nat.min_eq_left h2]
    · have e2 : min j l.length = l.length := Nat.min_eq_right (by omega)
      rw [e2, List.take_of_length_le (by simp), List.take_of_length_le (by simp; omega)]
  · have e : min i l.length = l.length := Nat.min_eq_right (by omega)
    rw [e, List.drop_of_length_le (Nat.le_refl _), List.drop_of_length_le (by omega)]
    simp
theorem cutN_no {α : Type} (l : List α) (j : Nat) : cutN l none (some (j : Int)) = l.take j := by
  unfold cutN
  rw [HT.sIx_nat, HT.sIx_none, List.drop_zero, Nat.sub_zero]
  by_cases h : j ≤ l.length
  · rw [Nat.min_eq_left h]
  · rw [Nat.min_eq_right (by omega), List.take_of_length_le (Nat.le_refl _), List.take_of_length_le (by omega)]
theorem cutN_on {α : Type} (l : List α) (i : Nat) : cutN l (some (i : Int)) none = l.drop i := by
  unfold cutN
  rw [HT.sIx_nat, HT.sIx_none]
  by_cases h : i ≤ l.length
  · rw [Nat.min_eq_left h, List.take_of_length_le (by simp)]
  · rw [Nat.min_eq_right (by omega), List.drop_of_length_le (Nat.le_refl _), List.drop_of_length_le (by omega)]
    simp
theorem revS_mk (l : List Nat) : revS (mk l) = mk l.reverse := by unfold revS; rw [mk_cps]; rfl
theorem signs_mk (l : List Nat) : signs (mk l) = l.map fun c => .str (mk [c]) := by unfold signs; rw [mk_cps]; rfl
theorem repS_mk (l : List Nat) (k : Int) : repS (mk l) k = mk (List.replicate k.toNat l).flatten := by unfold repS; rw [mk_cps]; rfl
theorem atI_nat {α : Type} (l : List α) (i : Nat) : atI l (i : Int) = l[i]? := by
  unfold atI ixN
  rw [if_pos (by omega)]
  by_cases h : i < l.length
  · rw [if_pos (by omega)]; rfl
  · rw [if_neg (by omega), List.getElem?_eq_none (by omega)]; rfl
theorem atI_neg {α : Type} (l : List α) (i : Int) (h : i < 0) (h2 : -(l.length : Int) ≤ i) : atI l i = l[((i + l.length).toNat)]? := by
  unfold atI ixN
  rw [if_neg (by omega), if_pos h2]
  rfl

/-! ### stores that grow -/
def nf : DO → Bool
  | .fro _ => false
  | _ => true
theorem lk {S : DS} {p a : Addr} {o o' : DO} (h : S a = some o) (n : nf o = true) (f : Fresh S p) : (S.set p o') a = some o := by
  rw [set_ne ?_]
  · exact h
  · intro e
    subst e
    obtain ⟨ds, e⟩ := f o h
    subst e
    cases n
theorem fresh_ne {S : DS} {p a : Addr} {o : DO} (h : S a = some o) (n : nf o = true) (f : Fresh S p) : a ≠ p := by
  intro e
  subst e
  obtain ⟨ds, e⟩ := f o h
  subst e
  cases n
/-- S' keeps what S tells, but of what is only read and of the addresses that N names -/
def Up (N : Addr → Prop) (S S' : DS) : Prop := ∀ a o, ¬ N a → S a = some o → nf o = true → S' a = some o
abbrev noA : Addr → Prop := fun _ => False
theorem Up.refl {N : Addr → Prop} {S : DS} : Up N S S := fun _ _ _ h _ => h
theorem Up.trans {N : Addr → Prop} {S S1 S2 : DS} (h : Up N S S1) (g : Up N S1 S2) : Up N S S2 := fun a o n e f => g a o n (h a o n e f) f
theorem Up.wide {N M : Addr → Prop} {S S1 : DS} (h : Up N S S1) (w : ∀ a, N a → M a) : Up M S S1 := fun a o n e f => h a o (fun z => n (w a z)) e f
theorem Up.of {N : Addr → Prop} {S S1 : DS} (h : Up noA S S1) : Up N S S1 := h.wide fun _ z => z.elim
theorem Up.set {N : Addr → Prop} {S : DS} {p : Addr} {o : DO} (f : Fresh S p) : Up N S (S.set p o) := fun _ _ _ e n => lk e n f
theorem Up.upd {N : Addr → Prop} {S : DS} {p : Addr} {o : DO} (f : N p) : Up N S (S.set p o) := fun a _ h e n => by rw [set_ne (fun q => h (by rw [q]; exact f))]; exact e
/-- a new list was set and then changed -/
theorem Up.setIn {N : Addr → Prop} {S S1 : DS} {p : Addr} {o : DO} (u : Up N S S1) (f : Fresh S p) : Up N S (S1.set p o) := fun a o' h e n => by rw [set_ne (fresh_ne e n f)]; exact u a o' h e n

/-! ### the steps -/
section
variable {τ : DSt} {S : DS} {R : DK} {E : DEnds} {nx bk ct : DSt → DS → Prop} {rt : DK} {i j l : Nat} {t ta tb tc td te : DTE} {u v : DTS} {c c' : DTT} {A B : Prop}
theorem rd {t : DTS} {N : List Str} {ds : List D} (τ : DSt) (e : dstart N ds = τ) (h : t E τ S) : t E (dstart N ds) S := by rw [e]; exact h
theorem ev_var {d : D} (h : τ[i]? = some (some d)) (k : R d S) : dVar i τ S R := ⟨d, h, k⟩
theorem ev_con {d : D} (k : R d S) : dC d τ S R := k
theorem ev_op {r : DR2} (k : ta τ S fun x S1 => tb τ S1 fun y S2 => r x y S2 R) : dOp r ta tb τ S R := k
theorem ev_un {r : DR1} (k : ta τ S fun x S1 => r x S1 R) : dUn r ta τ S R := k
theorem ev_b {R : Bool → DS → Prop} (k : t τ S fun x S1 => ∃ c, x = .bl c ∧ R c S1) : dB t τ S R := k
theorem ev_bl {c : Bool} {R : Bool → Prop} (k : R c) : ∃ c', D.bl c = .bl c' ∧ R c' := ⟨c, rfl, k⟩
theorem ev_andT {R : Bool → DS → Prop} (k : c τ S fun b S1 => if b = true then c' τ S1 R else R false S1) : dAndT c c' τ S R := k
theorem ev_orT {R : Bool → DS → Prop} (k : c τ S fun b S1 => if b = true then R true S1 else c' τ S1 R) : dOrT c c' τ S R := k
theorem ev_notT {R : Bool → DS → Prop} (k : c τ S fun b S1 => R (!b) S1) : dNotT c τ S R := k
theorem ev_andV (k : ta τ S fun x S1 => ∃ c, x = .bl c ∧ if c = true then tb τ S1 R else R (.bl false) S1) : dAndV ta tb τ S R := k
theorem ev_orV (k : ta τ S fun x S1 => ∃ c, x = .bl c ∧ if c = true then R (.bl true) S1 else tb τ S1 R) : dOrV ta tb τ S R := k
theorem ev_notV (k : ta τ S fun x S1 => ∃ c, x = .bl c ∧ R (.bl (!c)) S1) : dNotV ta τ S R := k
theorem ev_if (k : c τ S fun b S1 => if b = true then ta τ S1 R else tb τ S1 R) : dIf c ta tb τ S R := k
theorem ev_chain {r r' : DR2} (k : ta τ S fun x S1 => tb τ S1 fun y S2 => r x y S2 fun z S3 => ∃ k, z = .bl k ∧ if k = true then tc τ S3 fun w S4 => r' y w S4 R else R (.bl false) S3) : dChain r r' ta tb tc τ S R := k
theorem ev_chain3 {r1 r2 r3 : DR2} (k : ta τ S fun x S1 => tb τ S1 fun y S2 => r1 x y S2 fun k1 S3 => ∃ b1, k1 = .bl b1 ∧ if b1 = true then tc τ S3 fun z S4 => r2 y z S4 fun k2 S5 => ∃ b2, k2 = .bl b2 ∧ if b2 = true then td τ S5 fun u S6 => r3 z u S6 R else R (.bl false) S5 else R (.bl false) S3) : dChain3 r1 r2 r3 ta tb tc td τ S R := k
theorem ev_nil {R : List D → DS → Prop} (k : R [] S) : dNil τ S R := k
theorem ev_cons {tr : DTA} {R : List D → DS → Prop} (k : ta τ S fun x S1 => tr τ S1 fun xs S2 => R (x :: xs) S2) : dCons ta tr τ S R := k
theorem ev_tup {t : DTA} (k : t τ S fun ds S1 => ds.length ≤ sizeLine ∧ R (.tup ds) S1) : dTup t τ S R := k
theorem ev_lst {t : DTA} (k : t τ S fun ds S1 => ds.length ≤ sizeLine ∧ ∀ p, Fresh S1 p → R (.ref p) (S1.set p (.lst ds))) : dLst t τ S R := k
theorem ev_small {ds : List D} (k : A) (h : ds.length ≤ sizeLine) : ds.length ≤ sizeLine ∧ A := ⟨h, k⟩
theorem ev_nopart {R : Option Int → DS → Prop} (k : R none S) : dNoPart τ S R := k
theorem ev_part {R : Option Int → DS → Prop} (k : t τ S fun d S1 => ∃ i, d = .int i ∧ R (some i) S1) : dPart t τ S R := k
theorem ev_int {i : Int} {R : Int → Prop} (k : R i) : ∃ j, D.int i = .int j ∧ R j := ⟨i, rfl, k⟩
theorem ev_slice {tl th : DTO} (k : te τ S fun x S1 => tl τ S1 fun l S2 => th τ S2 fun u S3 => rSlice x l u S3 R) : dSlice te tl th τ S R := k
theorem ev_sl_tup {ds : List D} {lo hi : Option Int} (k : R (.tup (cutN ds lo hi)) S) : rSlice (.tup ds) lo hi S R := k
theorem ev_sl_str {l : List Nat} {lo hi : Option Int} (k : R (.str (mk (cutN l lo hi))) S) (h : l.length ≤ sizeLine) : rSlice (.str (mk l)) lo hi S R := ⟨by rw [mk_len]; exact h, by rw [cutS_mk]; exact k⟩
theorem ev_cb {r : DRC} {t : DTA} (k : t τ S fun ds S1 => r ds S1 R) : dCB r t τ S R := k
theorem ev_call {sp : DSp} {t : DTA} (k : t τ S fun ds S1 => sp ds S1 R) : dCall sp t τ S R := k
theorem ev_callK {sp : DSp} {t : DTA} {π : List Nat} {n : Nat} (k : t τ S fun ds S1 => ds.length = n ∧ sp (perm π .non ds) S1 R) : dCallK sp π n t τ S R := k
theorem ev_m {T : String} {r : DRM} {t : DTA} (k : ta τ S fun x S1 => dTyV T x S1 ∧ t τ S1 fun ds S2 => r x ds S2 R) : dM T r ta t τ S R := k
theorem ev_m1 {r : DRM} (k : ta τ S fun x S1 => (∃ a, x = .str a) ∧ tb τ S1 fun y S2 => r x [y] S2 R) : dM1 r ta tb τ S R := k
theorem ev_truth {R : Bool → DS → Prop} (k : t τ S fun d S1 => ∃ k, dTru d S1 k ∧ R k S1) : dTruth t τ S R := k
theorem ev_tr_bl {b : Bool} {R : Bool → Prop} (k : R b) : ∃ k, dTru (.bl b) S k ∧ R k := ⟨b, rfl, k⟩
theorem ev_tr_non {R : Bool → Prop} (k : R false) : ∃ k, dTru .non S k ∧ R k := ⟨false, rfl, k⟩
theorem ev_tr_tup {ds : List D} {R : Bool → Prop} (k : R (!ds.isEmpty)) : ∃ k, dTru (.tup ds) S k ∧ R k := ⟨_, rfl, k⟩
-- statements
theorem ev_next (k : nx τ S) : dNext ⟨nx, rt, bk, ct⟩ τ S := k
theorem ev_seq (k : u ⟨v ⟨nx, rt, bk, ct⟩, rt, bk, ct⟩ τ S) : dSeq u v ⟨nx, rt, bk, ct⟩ τ S := k
theorem ev_break (k : bk τ S) : dBreak ⟨nx, rt, bk, ct⟩ τ S := k
theorem ev_cont (k : ct τ S) : dCont ⟨nx, rt, bk, ct⟩ τ S := k
theorem ev_drop (k : t τ S fun _ S1 => nx τ S1) : dDrop t ⟨nx, rt, bk, ct⟩ τ S := k
theorem ev_ret (k : t τ S rt) : dRet t ⟨nx, rt, bk, ct⟩ τ S := k
theorem ev_ifS (k : c τ S fun b S1 => if b = true then u ⟨nx, rt, bk, ct⟩ τ S1 else v ⟨nx, rt, bk, ct⟩ τ S1) : dIfS c u v ⟨nx, rt, bk, ct⟩ τ S := k
theorem ev_set (k : t τ S fun d S1 => nx (τ.set i (some d)) S1) : dSet i t ⟨nx, rt, bk, ct⟩ τ S := k
theorem ev_asg {g : DTG} (k : t τ S fun d S1 => g d τ S1 nx) : dAsg t g ⟨nx, rt, bk, ct⟩ τ S := k
theorem ev_gname {d : D} {R : DSt → DS → Prop} (k : R (τ.set i (some d)) S) : dgName i d τ S R := k
theorem ev_gtup {n : Nat} {u : DTGs} {ds : List D} {R : DSt → DS → Prop} (h : ds.length = n) (k : u ds τ S R) : dgTup n u (.tup ds) τ S R := ⟨ds, rfl, h, k⟩
theorem ev_gcons {g : DTG} {u : DTGs} {d : D} {r : List D} {R : DSt → DS → Prop} (k : g d τ S fun τ' S' => u r τ' S' R) : dgCons g u (d :: r) τ S R := ⟨d, r, rfl, k⟩
theorem ev_gnil {R : DSt → DS → Prop} (k : R τ S) : dgNil [] τ S R := ⟨rfl, k⟩
theorem ev_gsub {r : DTSet} {d : D} {R : DSt → DS → Prop} (k : ta τ S fun o S1 => tb τ S1 fun i S2 => r o i d S2 fun S3 => R τ S3) : dgSub ta tb r d τ S R := k
theorem ev_par {t : DTA} (k : t τ S fun ds S1 => ∃ d d', ds = [d, d'] ∧ nx ((τ.set i (some d)).set j (some d')) S1) : dPar i j t ⟨nx, rt, bk, ct⟩ τ S := k
theorem ev_par3 {t : DTA} (k : t τ S fun ds S1 => ∃ d d' d'', ds = [d, d', d''] ∧ nx (((τ.set i (some d)).set j (some d')).set l (some d'')) S1) : dPar3 i j l t ⟨nx, rt, bk, ct⟩ τ S := k
theorem ev_two {d d' : D} {R : D → D → Prop} (k : R d d') : ∃ x y, [d, d'] = [x, y] ∧ R x y := ⟨d, d', rfl, k⟩
theorem ev_three {d d' d'' : D} {R : D → D → D → Prop} (k : R d d' d'') : ∃ x y z, [d, d', d''] = [x, y, z] ∧ R x y z := ⟨d, d', d'', rfl, k⟩
-- operations
theorem ev_add_ii {a b : Int} (k : R (.int (a + b)) S) : DL.rAdd (.int a) (.int b) S R := k
theorem ev_add_ss {a b : List Nat} (k : R (.str (mk (a ++ b))) S) (h : a.length + b.length ≤ sizeLine) : DL.rAdd (.str (mk a)) (.str (mk b)) S R := ⟨by rw [mk_len, mk_len]; exact h, by rw [mk_app]; exact k⟩
theorem ev_add_tt {a b : List D} (k : R (.tup (a ++ b)) S) (h : a.length + b.length ≤ sizeLine) : DL.rAdd (.tup a) (.tup b) S R := ⟨h, k⟩
theorem ev_sub {a b : Int} (k : R (.int (a - b)) S) : DL.rSub (.int a) (.int b) S R := k
theorem ev_mul {a b : Int} (k : R (.int (a * b)) S) (h : CMul a b) : DL.rMul (.int a) (.int b) S R := ⟨h, k⟩
theorem ev_div {a b : Int} (k : R (.int (a / b)) S) (h : CDiv a b) : DL.rDiv (.int a) (.int b) S R := ⟨h, k⟩
theorem ev_mod {a b : Int} (k : R (.int (a % b)) S) (h : 0 < b) : DL.rMod (.int a) (.int b) S R := ⟨h, k⟩
theorem ev_pow {a b : Int} (k : R (.int (a ^ b.toNat)) S) (h : CPow a b) : DL.rPow (.int a) (.int b) S R := ⟨h, k⟩
theorem ev_neg {a : Int} (k : R (.int (-a)) S) : rNeg (.int a) S R := k
theorem ev_lt {a b : Int} (k : R (.bl (decide (a < b))) S) : rLt (.int a) (.int b) S R := k
theorem ev_le {a b : Int} (k : R (.bl (decide (a ≤ b))) S) : rLe (.int a) (.int b) S R := k
theorem ev_gt {a b : Int} (k : R (.bl (decide (b < a))) S) : rGt (.int a) (.int b) S R := k
theorem ev_ge {a b : Int} (k : R (.bl (decide (b ≤ a))) S) : rGe (.int a) (.int b) S R := k
theorem ev_isN {d : D} (k : R (.bl (isNonD d)) S) : rIsN d .non S R := k
theorem ev_notN {d : D} (k : R (.bl (!isNonD d)) S) : rNotN d .non S R := k
theorem ev_it_tup {ds : List D} {i : Int} {d : D} (h : atI ds i = some d) (k : R d S) : rItem (.tup ds) (.int i) S R := ⟨d, h, k⟩
theorem ev_it_str {l : List Nat} {i : Int} {c : Nat} (h : atI l i = some c) (hl : l.length ≤ sizeLine) (k : R (.str (mk [c])) S) : rItem (.str (mk l)) (.int i) S R := ⟨by rw [mk_len]; exact hl, c, by rw [mk_cps]; exact h, k⟩
theorem ev_it_ref {a : Addr} {ds : List D} {i : Int} {d : D} (hr : rdL S a ds) (h : atI ds i = some d) (k : R d S) : rItem (.ref a) (.int i) S R := ⟨ds, d, hr, h, k⟩
theorem ev_eq_ii {a b : Int} (k : R (.bl (decide (a = b))) S) : DL.rEq false (.int a) (.int b) S R := .inl ⟨_, rfl, by
  have e : (a == b) = decide (a = b) := by rw [Bool.eq_iff_iff]; simp
  show R (.bl (a == b)) S
  rw [e]; exact k⟩
theorem ev_ne_ii {a b : Int} (k : R (.bl (!decide (a = b))) S) : DL.rEq true (.int a) (.int b) S R := .inl ⟨_, rfl, by
  have e : (a == b) = decide (a = b) := by rw [Bool.eq_iff_iff]; simp
  show R (.bl (!(a == b))) S
  rw [e]; exact k⟩
theorem ev_eq_ss {a b : List Nat} (k : R (.bl (decide (a = b))) S) : DL.rEq false (.str (mk a)) (.str (mk b)) S R := .inl ⟨_, rfl, by
  have e : decide (mk a = mk b) = decide (a = b) := by rw [Bool.eq_iff_iff]; simp [mk_inj]
  show R (.bl (decide (mk a = mk b))) S
  rw [e]; exact k⟩
theorem ev_ne_ss {a b : List Nat} (k : R (.bl (!decide (a = b))) S) : DL.rEq true (.str (mk a)) (.str (mk b)) S R := .inl ⟨_, rfl, by
  have e : decide (mk a = mk b) = decide (a = b) := by rw [Bool.eq_iff_iff]; simp [mk_inj]
  show R (.bl (!decide (mk a = mk b))) S
  rw [e]; exact k⟩
theorem ev_eq_S {a b : Str} (k : R (.bl (decide (a = b))) S) : DL.rEq false (.str a) (.str b) S R := .inl ⟨_, rfl, k⟩
theorem ev_ne_S {a b : Str} (k : R (.bl (!decide (a = b))) S) : DL.rEq true (.str a) (.str b) S R := .inl ⟨_, rfl, k⟩
-- built-ins
theorem ev_len_s {l : List Nat} (k : R (.int l.length) S) (h : l.length ≤ sizeLine) : rLen [.str (mk l)] S R := ⟨by rw [mk_len]; exact h, by rw [mk_len]; exact k⟩
theorem ev_len_t {ds : List D} (k : R (.int ds.length) S) : rLen [.tup ds] S R := k
theorem ev_abs {a : Int} (k : R (.int (if a < 0 then -a else a)) S) : rAbs [.int a] S R := k
theorem ev_min {a b : Int} (k : R (.int (if b < a then b else a)) S) : rMin [.int a, .int b] S R := k
theorem ev_back_s {l : List Nat} (k : R (.str (mk l.reverse)) S) (h : l.length ≤ sizeLine) : rBack (.str (mk l)) S R := ⟨by rw [mk_len]; exact h, by rw [revS_mk]; exact k⟩
theorem ev_back_t {ds : List D} (k : R (.tup ds.reverse) S) : rBack (.tup ds) S R := k
theorem ev_isi {d : D} {T n : String} {b : Bool} (h : DTy S d n) (hk : kitB n T = some b) (k : R (.bl b) S) : DL.rIsi [d, .ty T] S R := ⟨n, b, h, hk, k⟩
theorem ev_tuple_t {ds : List D} (k : R (.tup ds) S) : rTuple [.tup ds] S R := ⟨_, ds, rfl, rfl, k⟩
-- branches
theorem br_t (k : A) : if true = true then A else B := k
theorem br_f (k : B) : if false = true then A else B := k
theorem br {b : Bool} (h : b = true → A) (g : b = false → B) : if b = true then A else B := by
  cases b
  · exact g rfl
  · exact h rfl
end
end DL

/-! DL14: data that can be shown and compared; snapshots; the bag of draws -/
namespace DL
open PySem PySem.Spec PyProof.Rows L2

mutual
def okP : PyData → Bool
  | .none | .bool _ => true
  | .int i => decide (i.natAbs < 10 ^ 62)
  | .str x => PySem.PyData.strOk x
  | .list xs | .tuple xs => okPs xs
  | .dict kvs => okPk kvs
def okPs : List PyData → Bool
  | [] => true
  | x :: xs => okP x && okPs xs
def okPk : List (PyData × PyData) → Bool
  | [] => true
  | (k, x) :: xs => okP k && okP x && okPk xs
end
theorem int_short {i : Int} (h : i.natAbs < 10 ^ 62) : (PyData.shown (.int i)).length ≤ 63 := by
  show (Str.ofString (toString i)).length ≤ 63
  rw [ofString_len]
  exact int_text_length_le10 (by decide) h
theorem int_log {i : Int} (h : i.natAbs < 10 ^ 62) : i.natAbs.log2 < 1920 := by
  by_cases h0 : i.natAbs = 0
  · rw [h0]; decide
  · rw [Nat.log2_lt h0]
    exact Nat.lt_of_lt_of_le h (by decide +kernel)
theorem strOk_short {x : Str} (h : PySem.PyData.strOk x = true) : (x.cps.toList.all fun c => decide (c < 16 ^ 8)) = true := by
  unfold PySem.PyData.strOk at h
  rw [List.all_eq_true]
  intro c hc
  rw [Array.all_eq_true'] at h
  have := h c (by simpa using hc)
  simp at this ⊢
  omega
mutual
theorem okP_short : ∀ d : PyData, okP d = true → d.leavesShort 63 = true
  | .none, _ => by simp only [PyData.leavesShort]
  | .bool b, _ => by simp only [PyData.leavesShort]
  | .int i, h => by
    have h : i.natAbs < 10 ^ 62 := by simpa only [okP, decide_eq_true_eq] using h
    simpa only [PyData.leavesShort, decide_eq_true_eq] using int_short h
  | .str x, h => by
    simp only [PyData.leavesShort]
    exact strOk_short (by simpa only [okP] using h)
  | .list xs, h => by
    simp only [PyData.leavesShort]
    exact okPs_short xs (by simpa only [okP] using h)
  | .tuple xs, h => by
    simp only [PyData.leavesShort]
    exact okPs_short xs (by simpa only [okP] using h)
  | .dict xs, h => by
    simp only [PyData.leavesShort]
    exact okPk_short xs (by simpa only [okP] using h)
theorem okPs_short : ∀ ds : List PyData, okPs ds = true → PyData.leavesShortAll 63 ds = true
  | [], _ => by simp only [PyData.leavesShortAll]
  | d :: ds, h => by
    have h : okP d = true ∧ okPs ds = true := by simpa only [okPs, Bool.and_eq_true] using h
    simp only [PyData.leavesShortAll, okP_short d h.1, okPs_short ds h.2, Bool.and_self]
theorem okPk_short : ∀ ds : List (PyData × PyData), okPk ds = true → PyData.leavesShortKv 63 ds = true
  | [], _ => by simp only [PyData.leavesShortKv]
  | (k, d) :: ds, h => by
    have h : (okP k = true ∧ okP d = true) ∧ okPk ds = true := by simpa only [okPk, Bool.and_eq_true] using h
    simp only [PyData.leavesShortKv, okP_short k h.1.1, okP_short d h.1.2, okPk_short ds h.2, Bool.and_self]
end
mutual
theorem okP_show : ∀ d : PyData, okP d = true → d.showable = true
  | .none, _ => by simp only [PyData.showable]
  | .bool b, _ => by simp only [PyData.showable]
  | .int i, h => by
    have h : i.natAbs < 10 ^ 62 := by simpa only [okP, decide_eq_true_eq] using h
    simpa only [PyData.showable, decide_eq_true_eq] using int_log h
  | .str x, h => by simp only [PyData.showable]
  | .list xs, h => by
    simp only [PyData.showable]
    exact okPs_show xs (by simpa only [okP] using h)
  | .tuple xs, h => by
    simp only [PyData.showable]
    exact okPs_show xs (by simpa only [okP] using h)
  | .dict xs, h => by
    simp only [PyData.showable]
    exact okPk_show xs (by simpa only [okP] using h)
theorem okPs_show : ∀ ds : List PyData, okPs ds = true → PyData.showableAll ds = true
  | [], _ => by simp only [PyData.showableAll]
  | d :: ds, h => by
    have h : okP d = true ∧ okPs ds = true := by simpa only [okPs, Bool.and_eq_true] using h
    simp only [PyData.showableAll, okP_show d h.1, okPs_show ds h.2, Bool.and_self]
theorem okPk_show : ∀ ds : List (PyData × PyData), okPk ds = true → PyData.showableKv ds = true
  | [], _ => by simp only [PyData.showableKv]
  | (k, d) :: ds, h => by
    have h : (okP k = true ∧ okP d = true) ∧ okPk ds = true := by simpa only [okPk, Bool.and_eq_true] using h
    simp only [PyData.showableKv, okP_show k h.1.1, okP_show d h.1.2, okPk_show ds h.2, Bool.and_self]
end
mutual
theorem okP_lay : ∀ d : PyData, okP d = true → d.hasDict = false → d.canLay0 = true
  | .none, _, _ => rfl
  | .bool b, _, _ => rfl
  | .int i, _, _ => rfl
  | .str x, h, _ => by
    simp only [PyData.canLay0]
    simpa only [okP] using h
  | .list xs, h, g => by
    simp only [PyData.canLay0]
    exact okPs_lay xs (by simpa only [okP] using h) (by simpa only [PyData.hasDict] using g)
  | .tuple xs, h, g => by
    simp only [PyData.canLay0]
    exact okPs_lay xs (by simpa only [okP] using h) (by simpa only [PyData.hasDict] using g)
  | .dict xs, h, g => by simp [PyData.hasDict] at g
theorem okPs_lay : ∀ ds : List PyData, okPs ds = true → PyData.hasDictAll ds = false → PyData.canLayAll0 ds = true
  | [], _, _ => rfl
  | d :: ds, h, g => by
    have h : okP d = true ∧ okPs ds = true := by simpa only [okPs, Bool.and_eq_true] using h
    have g : d.hasDict = false ∧ PyData.hasDictAll ds = false := by simpa only [PyData.hasDictAll, Bool.or_eq_false_iff] using g
    simp only [PyData.canLayAll0, okP_lay d h.1 g.1, okPs_lay ds h.2 g.2, Bool.and_self]
end
/-- p can be shown -/
structure GoodR (p : PyData) : Prop where
  ok : okP p = true
  few : p.bulk ≤ 250000
  deep : p.depth ≤ 150
  dict : p.hasDict = true → noL p = true
theorem GoodR.len {p : PyData} (g : GoodR p) : p.shown.length ≤ sizeLine := by
  have h := PyData.shown_le_bulk 63 (by decide) p (okP_short p g.ok)
  have := g.few
  rw [sizeLine_eq]
  omega
theorem ev_repr {d : D} {p : PyData} {S : DS} {R : DK} (h : Sn S d p) (g : GoodR p) (k : R (.str p.shown) S) : rRepr [d] S R := ⟨d, p, rfl, h, okP_show p g.ok, g.len, g.deep, g.dict, k⟩
theorem ev_eqP {d e : D} {p q : PyData} {S : DS} {R : DK} (h : Sn S d p) (h' : Sn S e q) (g : okP p = true ∧ p.hasDict = false ∧ p.depth ≤ 150) (g' : okP q = true ∧ q.hasDict = false) (k : R (.bl (PyData.eqv p q)) S) : DL.rEq false d e S R :=
  .inr ⟨p, q, h, h', okP_lay p g.1 g.2.1, okP_lay q g'.1 g'.2, Nat.le_trans (Nat.min_le_left _ _) g.2.2, k⟩
theorem ev_neP {d e : D} {p q : PyData} {S : DS} {R : DK} (h : Sn S d p) (h' : Sn S e q) (g : okP p = true ∧ p.hasDict = false ∧ p.depth ≤ 150) (g' : okP q = true ∧ q.hasDict = false) (k : R (.bl (!PyData.eqv p q)) S) : DL.rEq true d e S R :=
  .inr ⟨p, q, h, h', okP_lay p g.1 g.2.1, okP_lay q g'.1 g'.2, Nat.le_trans (Nat.min_le_left _ _) g.2.2, k⟩

/-! ### data with nothing that stands in the store -/
mutual
def plD : D → Bool
  | .non | .bl _ => true
  | .int i => decide (i.natAbs < 10 ^ 62)
  | .str x => PySem.PyData.strOk x
  | .tup ds => plDs ds
  | .ref _ | .ty _ => false
def plDs : List D → Bool
  | [] => true
  | d :: ds => plD d && plDs ds
end
mutual
def pd : D → PyData
  | .non => .none
  | .bl b => .bool b
  | .int i => .int i
  | .str x => .str x
  | .tup ds => .tuple (pds ds)
  | .ref _ | .ty _ => .none
def pds : List D → List PyData
  | [] => []
  | d :: ds => pd d :: pds ds
end
mutual
theorem sn_pd {S : DS} : ∀ d : D, plD d = true → Sn S d (pd d)
  | .non, _ => .non
  | .bl b, _ => .bl b
  | .int i, _ => .int i
  | .str x, _ => .str x
  | .tup ds, h => by
    rw [pd]
    exact .tup (sn_pds ds (by simpa only [plD] using h))
  | .ref _, h => by simp [plD] at h
  | .ty _, h => by simp [plD] at h
theorem sn_pds {S : DS} : ∀ ds : List D, plDs ds = true → SnA S ds (pds ds)
  | [], _ => .nil
  | d :: ds, h => by
    have h : plD d = true ∧ plDs ds = true := by simpa only [plDs, Bool.and_eq_true] using h
    rw [pds]
    exact .cons (sn_pd d h.1) (sn_pds ds h.2)
end
mutual
theorem pd_ok : ∀ d : D, plD d = true → okP (pd d) = true ∧ (pd d).hasDict = false ∧ noL (pd d) = true
  | .non, _ => ⟨rfl, rfl, rfl⟩
  | .bl b, _ => ⟨rfl, rfl, rfl⟩
  | .int i, h => by simpa [pd, okP, PyData.hasDict, noL, plD] using h
  | .str x, h => by simpa [pd, okP, PyData.hasDict, noL, plD] using h
  | .tup ds, h => by
    have := pds_ok ds (by simpa only [plD] using h)
    simpa only [pd, okP, PyData.hasDict, noL] using this
  | .ref _, h => by simp [plD] at h
  | .ty _, h => by simp [plD] at h
theorem pds_ok : ∀ ds : List D, plDs ds = true → okPs (pds ds) = true ∧ PyData.hasDictAll (pds ds) = false ∧ noLs (pds ds) = true
  | [], _ => ⟨rfl, rfl, rfl⟩
  | d :: ds, h => by
    have h : plD d = true ∧ plDs ds = true := by simpa only [plDs, Bool.and_eq_true] using h
    have h1 := pd_ok d h.1
    have h2 := pds_ok ds h.2
    simp only [pds, okPs, PyData.hasDictAll, noLs, h1.1, h1.2.1, h1.2.2, h2.1, h2.2.1, h2.2.2, Bool.and_self, Bool.or_self, and_self]
end
/-- told and due: the same data -/
def sp_like : DSp := fun ds S R => ∃ x y p, ds = [x, y] ∧ Sn S x p ∧ Sn S y p ∧ GoodR p ∧ p.hasDict = false ∧ R (.bl true) S
def t_like : DTS := (dRet (dAndV (dOp (DL.rEq false) (dCB rRepr (dCons (dVar 0) dNil)) (dCB rRepr (dCons (dVar 1) dNil))) (dOp (DL.rEq false) (dVar 0) (dVar 1))))
theorem read_like {N : List Str} (hN : N.length = 2) : ∀ ds S R, sp_like ds S R → t_like { nx := fun _ S' => R .non S', rt := R } (dstart N ds) S := by
  intro ds S R ⟨x, y, p, e, h1, h2, g, nd, k⟩
  subst e
  refine rd [some x, some y] (by simp [dstart, hN]) ?_
  unfold t_like
  refine ev_ret (ev_andV (ev_op (ev_cb (ev_cons (ev_var rfl (ev_nil (ev_repr h1 g (ev_cb (ev_cons (ev_var rfl (ev_nil (ev_repr h2 g (ev_eq_S (ev_bl ?_)))))))))))))) 
  rw [if_pos (by simp)]
  refine ev_op (ev_var rfl (ev_var rfl (ev_eqP h1 h2 ⟨g.ok, nd, g.deep⟩ ⟨g.ok, nd⟩ ?_)))
  rw [PySem.SeqAt.eqv_refl p (okP_lay p g.ok nd)]
  exact k
def t_same : DTS := (dRet (dAndV (dOp (DL.rEq false) (dVar 0) (dVar 1)) (dOp (DL.rEq false) (dCB rRepr (dCons (dVar 0) dNil)) (dCB rRepr (dCons (dVar 1) dNil)))))
theorem read_same {N : List Str} (hN : N.length = 2) : ∀ ds S R, sp_like ds S R → t_same { nx := fun _ S' => R .non S', rt := R } (dstart N ds) S := by
  intro ds S R ⟨x, y, p, e, h1, h2, g, nd, k⟩
  subst e
  refine rd [some x, some y] (by simp [dstart, hN]) ?_
  unfold t_same
  refine ev_ret (ev_andV (ev_op (ev_var rfl (ev_var rfl (ev_eqP h1 h2 ⟨g.ok, nd, g.deep⟩ ⟨g.ok, nd⟩ ?_)))))
  rw [PySem.SeqAt.eqv_refl p (okP_lay p g.ok nd)]
  refine ev_bl ?_
  rw [if_pos rfl]
  refine ev_op (ev_cb (ev_cons (ev_var rfl (ev_nil (ev_repr h1 g (ev_cb (ev_cons (ev_var rfl (ev_nil (ev_repr h2 g (ev_eq_S ?_)))))))))))
  rw [decide_eq_true rfl]
  exact k
/-- two lists of the same plain data -/
theorem like_lst {a a' : Addr} {ds : List D} {S : DS} {R : DK} (h1 : S a = some (.lst ds)) (h2 : S a' = some (.lst ds)) (hp : plDs ds = true) (hb : PyData.bulkAll (pds ds) ≤ 250000) (hd : PyData.depthAll (pds ds) ≤ 149) (k : R (.bl true) S) : sp_like [.ref a, .ref a'] S R := by
  have o := pds_ok ds hp
  refine ⟨_, _, .list (pds ds), rfl, .lst (.inl h1) (sn_pds ds hp), .lst (.inl h2) (sn_pds ds hp), ⟨by simp only [okP]; exact o.1, by simp only [PyData.bulk]; exact hb, by simp only [PyData.depth]; omega, fun h => ?_⟩, by simp only [PyData.hasDict]; exact o.2.1, k⟩
  simp only [PyData.hasDict] at h
  rw [o.2.1] at h; cases h
theorem like_pl {d : D} {S : DS} {R : DK} (hp : plD d = true) (hb : (pd d).bulk ≤ 250000) (hd : (pd d).depth ≤ 150) (k : R (.bl true) S) : sp_like [d, d] S R := by
  have o := pd_ok d hp
  exact ⟨_, _, pd d, rfl, sn_pd d hp, sn_pd d hp, ⟨o.1, hb, hd, fun _ => o.2.2⟩, o.2.1, k⟩

/-! ### snapshots off some addresses -/
mutual
inductive Sl (N : Addr → Prop) (S : DS) : D → PyData → Prop
  | non : Sl N S .non .none
  | bl (b : Bool) : Sl N S (.bl b) (.bool b)
  | int (i : Int) : Sl N S (.int i) (.int i)
  | str (x : Str) : Sl N S (.str x) (.str x)
  | tup {ds : List D} {ps : List PyData} : SlA N S ds ps → Sl N S (.tup ds) (.tuple ps)
  | lst {a : Addr} {ds : List D} {ps : List PyData} : ¬ N a → S a = some (.lst ds) → SlA N S ds ps → Sl N S (.ref a) (.list ps)
  | dict {a : Addr} {kvs : List (Key × D)} {ps : List (PyData × PyData)} : ¬ N a → S a = some (.dK kvs) → SlK N S kvs ps → Sl N S (.ref a) (.dict ps)
inductive SlA (N : Addr → Prop) (S : DS) : List D → List PyData → Prop
  | nil : SlA N S [] []
  | cons {d : D} {ds : List D} {p : PyData} {ps : List PyData} : Sl N S d p → SlA N S ds ps → SlA N S (d :: ds) (p :: ps)
inductive SlK (N : Addr → Prop) (S : DS) : List (Key × D) → List (PyData × PyData) → Prop
  | nil : SlK N S [] []
  | cons {k : Key} {d : D} {ds : List (Key × D)} {p : PyData} {ps : List (PyData × PyData)} : Sl N S d p → SlK N S ds ps → SlK N S ((k, d) :: ds) ((keyP k, p) :: ps)
end
section
variable {N : Addr → Prop} {S S' : DS}
mutual
theorem Sl.up (u : Up N S S') : ∀ (p : PyData) (d : D), Sl N S d p → Sl N S' d p
  | .none, _, h => by cases h; exact .non
  | .bool b, _, h => by cases h; exact .bl b
  | .int i, _, h => by cases h; exact .int i
  | .str x, _, h => by cases h; exact .str x
  | .tuple ps, _, h => by
    cases h with
    | tup h => exact .tup (SlA.up u ps _ h)
  | .list ps, _, h => by
    cases h with
    | lst n e h => exact .lst n (u _ _ n e rfl) (SlA.up u ps _ h)
  | .dict ps, _, h => by
    cases h with
    | dict n e h => exact .dict n (u _ _ n e rfl) (SlK.up u ps _ h)
theorem SlA.up (u : Up N S S') : ∀ (ps : List PyData) (ds : List D), SlA N S ds ps → SlA N S' ds ps
  | [], _, h => by cases h; exact .nil
  | p :: ps, _, h => by
    cases h with
    | cons h r => exact .cons (Sl.up u p _ h) (SlA.up u ps _ r)
theorem SlK.up (u : Up N S S') : ∀ (ps : List (PyData × PyData)) (ds : List (Key × D)), SlK N S ds ps → SlK N S' ds ps
  | [], _, h => by cases h; exact .nil
  | (_, p) :: ps, _, h => by
    cases h with
    | cons h r => exact .cons (Sl.up u p _ h) (SlK.up u ps _ r)
end
mutual
theorem Sl.sn : ∀ (p : PyData) (d : D), Sl N S d p → Sn S d p
  | .none, _, h => by cases h; exact .non
  | .bool b, _, h => by cases h; exact .bl b
  | .int i, _, h => by cases h; exact .int i
  | .str x, _, h => by cases h; exact .str x
  | .tuple ps, _, h => by
    cases h with
    | tup h => exact .tup (SlA.sn ps _ h)
  | .list ps, _, h => by
    cases h with
    | lst n e h => exact .lst (.inl e) (SlA.sn ps _ h)
  | .dict ps, _, h => by
    cases h with
    | dict n e h => exact .dict e (SlK.sn ps _ h)
theorem SlA.sn : ∀ (ps : List PyData) (ds : List D), SlA N S ds ps → SnA S ds ps
  | [], _, h => by cases h; exact .nil
  | p :: ps, _, h => by
    cases h with
    | cons h r => exact .cons (Sl.sn p _ h) (SlA.sn ps _ r)
theorem SlK.sn : ∀ (ps : List (PyData × PyData)) (ds : List (Key × D)), SlK N S ds ps → SnK S ds ps
  | [], _, h => by cases h; exact .nil
  | (_, p) :: ps, _, h => by
    cases h with
    | cons h r => exact .cons (Sl.sn p _ h) (SlK.sn ps _ r)
end
mutual
theorem sl_pd : ∀ d : D, plD d = true → Sl N S d (pd d)
  | .non, _ => .non
  | .bl b, _ => .bl b
  | .int i, _ => .int i
  | .str x, _ => .str x
  | .tup ds, h => by
    rw [pd]
    exact .tup (sl_pds ds (by simpa only [plD] using h))
  | .ref _, h => by simp [plD] at h
  | .ty _, h => by simp [plD] at h
theorem sl_pds : ∀ ds : List D, plDs ds = true → SlA N S ds (pds ds)
  | [], _ => .nil
  | d :: ds, h => by
    have h : plD d = true ∧ plDs ds = true := by simpa only [plDs, Bool.and_eq_true] using h
    rw [pds]
    exact .cons (sl_pd d h.1) (sl_pds ds h.2)
end
end

/-! ### the bag -/
/-- b: the bag, c: its cells -/
def Bag (b c : Addr) (S : DS) : Prop := b ≠ c ∧ ∃ (ns : List Int) (d m : Int), S b = some (.lst [.ref c, .int d, .int m]) ∧ S c = some (.lst (ns.map D.int)) ∧ (∀ n ∈ ns, 0 ≤ n) ∧ 0 ≤ d ∧ 0 ≤ m ∧ m < 2147483647
abbrev bc (b c : Addr) : Addr → Prop := fun a => a = b ∨ a = c
theorem Bag.up {b c : Addr} {S S' : DS} (B : Bag b c S) (u : Up noA S S') : Bag b c S' := by
  obtain ⟨ne, ns, d, m, h1, h2, h⟩ := B
  exact ⟨ne, ns, d, m, u _ _ id h1 rfl, u _ _ id h2 rfl, h⟩
theorem Bag.set {b c : Addr} {S : DS} {p : Addr} {o : DO} (B : Bag b c S) (f : Fresh S p) : Bag b c (S.set p o) := B.up (Up.set f)
theorem Bag.off {b c : Addr} {S : DS} {p : Addr} (B : Bag b c S) (f : Fresh S p) : ¬ bc b c p := by
  obtain ⟨ne, ns, d, m, h1, h2, h⟩ := B
  rintro (e | e)
  · subst e; exact fresh_ne h1 rfl f rfl
  · subst e; exact fresh_ne h2 rfl f rfl
/-- some draw below n -/
def sp_draw : DSp := fun ds S R => ∃ b c n, ds = [.ref b, .int n] ∧ Bag b c S ∧ 0 < n ∧ n < 1073741824 ∧ ∀ k S', 0 ≤ k → k < n → Bag b c S' → Up (bc b c) S S' → R (.int k) S'
/-- what a sequence holds -/
def SeqIs (b c : Addr) (S : DS) (x : D) (xs : List D) : Prop := x = .tup xs ∨ (∃ a, x = .ref a ∧ ¬ bc b c a ∧ S a = some (.lst xs)) ∨ ∃ l : List Nat, x = .str (mk l) ∧ xs = signs (mk l) ∧ l.length ≤ sizeLine
def sp_pick : DSp := fun ds S R => ∃ b c x xs, ds = [.ref b, x] ∧ Bag b c S ∧ SeqIs b c S x xs ∧ xs ≠ [] ∧ xs.length < 1000000 ∧ ∀ d ∈ xs, ∀ S', Bag b c S' → Up (bc b c) S S' → R d S'
def sp_own_bag : DSp := fun ds S R => ∃ (a : Addr) (ns : List Int), ds = [.ref a] ∧ S a = some (.fro (ns.map D.int)) ∧ ns.length ≤ sizeLine ∧ ∀ b c S', Bag b c S' → R (.ref b) S'
end DL

/-! DL15: loops by their invariants -/
namespace DL
open PySem PySem.Spec PyProof.Rows L2
section
variable {τ : DSt} {S : DS} {R : DK} {nx bk ct : DSt → DS → Prop} {rt : DK} {c : DTT} {tb : DTS} {g : DTG} {wi : DTI} {ds : List D} {st : DS → Prop} {te : DTE} {tt : DTT} {vs : List Nat}
theorem ev_while (I : Nat → DSt → DS → Prop) (Out : DSt → DS → Prop) (start : ∃ m, I m τ S)
    (turn : ∀ nx' : DSt → DS → Prop, (∀ τ S, Out τ S → nx' τ S) → ∀ m τ S, I m τ S → c τ S fun b S1 => if b = true then ∃ N : DSt → DS → Prop, (∀ τ' S', N τ' S' → ∃ m', m' < m ∧ I m' τ' S') ∧ tb ⟨N, rt, nx', N⟩ τ S1 else nx' τ S1)
    (after : ∀ τ S, Out τ S → nx τ S) : dWhile c tb ⟨nx, rt, bk, ct⟩ τ S := ⟨I, start, fun m τ S h => turn nx after m τ S h⟩
theorem ev_go {m : Nat} {I : Nat → DSt → DS → Prop} (k : ∀ N : DSt → DS → Prop, (∀ m' τ' S', m' < m → I m' τ' S' → N τ' S') → tb ⟨N, rt, bk, N⟩ τ S) : ∃ N : DSt → DS → Prop, (∀ τ' S', N τ' S' → ∃ m', m' < m ∧ I m' τ' S') ∧ tb ⟨N, rt, bk, N⟩ τ S :=
  ⟨fun τ' S' => ∃ m', m' < m ∧ I m' τ' S', fun _ _ h => h, k _ fun m' _ _ l h => ⟨m', l, h⟩⟩
/-- a for over known items -/
def dForB (g : DTG) (tb : DTS) (E : DEnds) (ds : List D) (st : DS → Prop) (τ : DSt) (S1 : DS) : Prop := ∃ I : Nat → DSt → DS → Prop, I 0 τ S1 ∧ (∀ i τ S, i ≤ ds.length → I i τ S → st S) ∧
  (∀ i d τ S, ds[i]? = some d → I i τ S → g d τ S fun τ2 S2 => tb { E with nx := I (i + 1), ct := I (i + 1), bk := E.nx } τ2 S2) ∧ ∀ τ S, I ds.length τ S → E.nx τ S
theorem ev_for (k : wi τ S fun ds st S1 => dForB g tb ⟨nx, rt, bk, ct⟩ ds st τ S1) : dFor wi g tb ⟨nx, rt, bk, ct⟩ τ S := k
theorem forB (I : Nat → DSt → DS → Prop) (Out : DSt → DS → Prop) (start : I 0 τ S) (hst : ∀ i τ S, i ≤ ds.length → I i τ S → st S)
    (turn : ∀ nx' N' : DSt → DS → Prop, (∀ τ S, Out τ S → nx' τ S) → ∀ i d τ S, ds[i]? = some d → i < ds.length → I i τ S → (∀ τ S, I (i + 1) τ S → N' τ S) → g d τ S fun τ2 S2 => tb ⟨N', rt, nx', N'⟩ τ2 S2)
    (fin : ∀ τ S, I ds.length τ S → Out τ S) (after : ∀ τ S, Out τ S → nx τ S) : dForB g tb ⟨nx, rt, bk, ct⟩ ds st τ S :=
  ⟨I, start, hst, fun i d τ S e h => turn nx (I (i + 1)) after i d τ S e (by
    have := List.getElem?_eq_some_iff.mp e
    exact this.1) h fun _ _ q => q, fun τ S h => after τ S (fin τ S h)⟩
theorem ev_itT (k : te τ S fun d S1 => ∃ ds, d = .tup ds ∧ Z ds (fun _ => True) S1) : dIt te τ S Z := .inl (.inl k)
theorem ev_itL (k : te τ S fun d S1 => ∃ a ds, d = .ref a ∧ rdL S1 a ds ∧ Z ds (fun S => rdL S a ds) S1) : dIt te τ S Z := .inl (.inr k)
theorem ev_itS (k : te τ S fun d S1 => ∃ x, d = .str x ∧ Z (signs x) (fun _ => True) S1) : dIt te τ S Z := .inr k
theorem ev_tup1 {xs : List D} {P : List D → Prop} (k : P xs) : ∃ ds, D.tup xs = .tup ds ∧ P ds := ⟨xs, rfl, k⟩
theorem ev_ref1 {a : Addr} {xs : List D} {P : Addr → List D → Prop} (h : S a = some (.lst xs)) (k : P a xs) : ∃ a' ds, D.ref a = .ref a' ∧ rdL S a' ds ∧ P a' ds := ⟨a, xs, rfl, .inl h, k⟩
theorem ev_rng1 {ta : DTA} (k : ta τ S fun ds S1 => ∃ j : Int, ds = [.int j] ∧ -(2 ^ 62) ≤ j ∧ j < 2 ^ 62 ∧ Z (upTo 0 j.toNat) (fun _ => True) S1) : dRng1 ta τ S Z := k
theorem ev_rng1' {j : Int} {P : Int → Prop} (k : P j) (h1 : -1000000000 ≤ j ∧ j ≤ 1000000000) : ∃ j' : Int, [D.int j] = [.int j'] ∧ -(2 ^ 62) ≤ j' ∧ j' < 2 ^ 62 ∧ P j' := ⟨j, rfl, by omega, by omega, k⟩
theorem ev_rng2 {ta : DTA} (k : ta τ S fun ds S1 => ∃ i j : Int, ds = [.int i, .int j] ∧ (-(2 ^ 62) ≤ i ∧ i < 2 ^ 62 ∧ -(2 ^ 62) ≤ j ∧ j < 2 ^ 62) ∧ Z (upTo i (j - i).toNat) (fun _ => True) S1) : dRng2 ta τ S Z := k
theorem ev_rng2' {i j : Int} {P : Int → Int → Prop} (k : P i j) (h1 : -1000000000 ≤ i ∧ i ≤ 1000000000 ∧ -1000000000 ≤ j ∧ j ≤ 1000000000) : ∃ i' j' : Int, [D.int i, D.int j] = [.int i', .int j'] ∧ (-(2 ^ 62) ≤ i' ∧ i' < 2 ^ 62 ∧ -(2 ^ 62) ≤ j' ∧ j' < 2 ^ 62) ∧ P i' j' := ⟨i, j, rfl, by omega, k⟩
theorem at_upTo {lo : Int} {n i : Nat} {d : D} (h : (upTo lo n)[i]? = some d) : d = .int (lo + i) ∧ i < n := by
  unfold upTo at h
  rw [List.getElem?_map] at h
  by_cases hi : i < n
  · rw [List.getElem?_range hi] at h
    cases h
    exact ⟨rfl, hi⟩
  · rw [List.getElem?_eq_none (by simp; omega)] at h
    cases h
theorem upTo_len {lo : Int} {n : Nat} : (upTo lo n).length = n := by simp [upTo]
theorem at_enum {xs : List D} : ∀ {k i : Nat} {d : D}, (enumD k xs)[i]? = some d → ∃ x, xs[i]? = some x ∧ d = .tup [.int ((k + i : Nat) : Int), x] := by
  induction xs with
  | nil => intro k i d h; simp [enumD] at h
  | cons y ys ih =>
    intro k i d h
    cases i with
    | zero => simp [enumD] at h; exact ⟨y, rfl, h.symm⟩
    | succ i =>
      simp only [enumD, List.getElem?_cons_succ] at h
      obtain ⟨x, h1, h2⟩ := ih h
      exact ⟨x, by simpa using h1, by rw [h2, show k + 1 + i = k + (i + 1) by omega]⟩
theorem ev_enT {ta : DTA} (k : ta τ S fun ds S1 => ∃ xs, ds = [.tup xs] ∧ Z (enumD 0 xs) (fun _ => True) S1) : dEn ta τ S Z := .inl k
theorem ev_enL {ta : DTA} (k : ta τ S fun ds S1 => ∃ a xs, ds = [.ref a] ∧ rdL S1 a xs ∧ Z (enumD 0 xs) (fun S => rdL S a xs) S1) : dEn ta τ S Z := .inr k
theorem ev_tup1' {xs : List D} {P : List D → Prop} (k : P xs) : ∃ ds, [D.tup xs] = [.tup ds] ∧ P ds := ⟨xs, rfl, k⟩
theorem ev_revT (k : te τ S fun d S1 => ∃ ds, d = .tup ds ∧ Z ds.reverse (fun _ => True) S1) : dRev te τ S Z := .inl k
theorem ev_revL (k : te τ S fun d S1 => ∃ a ds, d = .ref a ∧ rdL S1 a ds ∧ Z ds.reverse (fun S => rdL S a ds) S1) : dRev te τ S Z := .inr k
/-- a list of the comprehension's items -/
def dLcB (g : DTG) (tt : DTT) (te : DTE) (vs : List Nat) (τ : DSt) (R : DK) (ds : List D) (st : DS → Prop) (S1 : DS) : Prop := ∀ p, Fresh S1 p → ∃ I : Nat → DS → Prop, I 0 (S1.set p (.lst [])) ∧ (∀ i S, i ≤ ds.length → I i S → st S) ∧
  (∀ i d S, ds[i]? = some d → I i S → g d (dwipe τ vs) S fun τ2 S2 => tt τ2 S2 fun b S3 => if b = true then te τ2 S3 fun y S4 => ∃ acc, S4 p = some (.lst acc) ∧ acc.length < sizeLine ∧ I (i + 1) (S4.set p (.lst (acc ++ [y]))) else I (i + 1) S3) ∧
  ∀ S, I ds.length S → R (.ref p) S
theorem ev_lc (k : wi τ S fun ds st S1 => dLcB g tt te vs τ R ds st S1) : dLc wi g tt te vs τ S R := k
/-- p: the new list; J tells of the store and of the items so far -/
theorem lcB (J : Addr → Nat → List D → DS → Prop) (start : ∀ p, Fresh S p → J p 0 [] (S.set p (.lst []))) (hst : ∀ p i acc S, i ≤ ds.length → J p i acc S → st S) (hp : ∀ p i acc S, J p i acc S → S p = some (.lst acc))
    (turn : ∀ p i d acc S (N : DS → Prop), ds[i]? = some d → i < ds.length → J p i acc S → S p = some (.lst acc) → (∀ acc' S', J p (i + 1) acc' S' → N S') → g d (dwipe τ vs) S fun τ2 S2 => tt τ2 S2 fun b S3 => if b = true then te τ2 S3 fun y S4 => ∃ acc, S4 p = some (.lst acc) ∧ acc.length < sizeLine ∧ N (S4.set p (.lst (acc ++ [y]))) else N S3)
    (fin : ∀ p acc S, Fresh S0 p → J p ds.length acc S → R (.ref p) S) (e : S0 = S) : dLcB g tt te vs τ R ds st S := by
  subst e
  intro p f
  refine ⟨fun i S => ∃ acc, J p i acc S, ⟨[], start p f⟩, fun i S h ⟨acc, q⟩ => hst p i acc S h q, fun i d S e ⟨acc, q⟩ => ?_, fun S ⟨acc, q⟩ => fin p acc S f q⟩
  exact turn p i d acc S _ e (List.getElem?_eq_some_iff.mp e).1 q (hp p i acc S q) fun acc' S' h => ⟨acc', h⟩
end
/-- items of a comprehension whose parts leave the store -/
theorem yes_tt {τ : DSt} {S : DS} {R : Bool → DS → Prop} (k : R true S) : dYes τ S R := k
section
variable {S : DS} {R : DK}
theorem ne_nil_P (xs ys : List PyData) : PyData.eqv (.list xs) (.list ys) = PyData.eqvAll xs ys := by rw [PyData.eqv]
theorem eqv_nil : ∀ ns : List Int, PyData.eqv (.list (ns.map PyData.int)) (.list []) = ns.isEmpty
  | [] => by simp [PyData.eqv, PyData.eqvAll]
  | _ :: _ => by simp [PyData.eqv, PyData.eqvAll]
theorem lay_ints : ∀ ns : List Int, PyData.canLayAll0 (ns.map PyData.int) = true
  | [] => rfl
  | n :: ns => by simp [PyData.canLayAll0, PyData.canLay0, lay_ints ns]
theorem sn_ints {S : DS} : ∀ ns : List Int, SnA S (ns.map D.int) (ns.map PyData.int)
  | [] => .nil
  | n :: ns => .cons (.int n) (sn_ints ns)
theorem pow109 : (10 : Int) ^ (9 : Int).toNat = 1000000000 := by decide
theorem ne_nil {c p : Addr} {ns : List Int} (h : S c = some (.lst (ns.map D.int))) (f : Fresh S p) (k : R (.bl (!ns.isEmpty)) (S.set p (.lst []))) : DL.rEq true (.ref c) (.ref p) (S.set p (.lst [])) R := by
  refine .inr ⟨.list (ns.map .int), .list [], .lst (.inl (lk h rfl f)) (sn_ints ns), .lst (.inl set_same) .nil, by simpa [PyData.canLay0] using lay_ints ns, rfl, Nat.le_trans (Nat.min_le_right _ _) (by decide), ?_⟩
  rw [eqv_nil]
  exact k
theorem ev_pop {a : Addr} {xs : List D} {d : D} (h : S a = some (.lst (xs ++ [d]))) (k : R d (S.set a (.lst xs))) : rPopD (.ref a) [] S R := ⟨xs, d, h, k⟩
theorem ev_setL {a : Addr} {xs : List D} {v : D} {i : Int} {j : Nat} {R : DS → Prop} (h : S a = some (.lst xs)) (e : ixN xs.length i = some j) (k : R (S.set a (.lst (xs.set j v)))) : rSetD (.ref a) (.int i) v S R := ⟨xs, j, h, e, k⟩
theorem ev_app {a : Addr} {xs : List D} {d : D} (h : S a = some (.lst xs)) (n : xs.length < sizeLine) (k : R .non (S.set a (.lst (xs ++ [d])))) : rAppendD (.ref a) [d] S R := ⟨xs, h, n, k⟩
theorem ty_list {a : Addr} {xs : List D} {A : Prop} (h : S a = some (.lst xs)) (k : A) : dTyV "list" (.ref a) S ∧ A := ⟨.inl ⟨rfl, xs, .inl h⟩, k⟩
end
end DL
namespace DL
open PySem PySem.Spec PyProof.Rows L2
theorem atI_in {α : Type} {xs : List α} {k : Int} (h0 : 0 ≤ k) (h : k < xs.length) : ∃ d, atI xs k = some d ∧ d ∈ xs := by
  obtain ⟨n, rfl⟩ := Int.eq_ofNat_of_zero_le h0
  rw [atI_nat, List.getElem?_eq_getElem (by omega)]
  exact ⟨_, rfl, List.getElem_mem _⟩
def rd_pick (sp : DSp) : DTS := (dRet (dOp rItem (dVar 1) (dCall sp (dCons (dVar 0) (dCons (dCB rLen (dCons (dVar 1) dNil)) dNil)))))
theorem read_pick {N : List Str} (hN : N.length = 2) : ∀ ds S R, sp_pick ds S R → rd_pick sp_draw { nx := fun _ S' => R .non S', rt := R } (dstart N ds) S := by
  intro ds S R ⟨b, c, x, xs, e, B, hs, ne, few, k⟩
  subst e
  refine rd [some (.ref b), some x] (by simp [dstart, hN]) ?_
  have l0 : 0 < xs.length := List.length_pos_iff.mpr ne
  refine ev_ret (ev_op (ev_var rfl (ev_call (ev_cons (ev_var rfl (ev_cons (ev_cb (ev_cons (ev_var rfl (ev_nil ?_))))))))))
  rcases hs with rfl | ⟨a, rfl, na, ha⟩ | ⟨l, rfl, rfl, hl⟩
  · refine ev_len_t (ev_nil ⟨b, c, xs.length, rfl, B, by omega, by omega, fun j S' h1 h2 B' u => ?_⟩)
    obtain ⟨d, e, hd⟩ := atI_in h1 h2
    exact ev_it_tup e (k d hd S' B' u)
  · refine ⟨xs, .inl ha, ev_nil ⟨b, c, xs.length, rfl, B, by omega, by omega, fun j S' h1 h2 B' u => ?_⟩⟩
    obtain ⟨d, e, hd⟩ := atI_in h1 h2
    exact ev_it_ref (.inl (u a _ na ha rfl)) e (k d hd S' B' u)
  · have e1 : (signs (mk l)).length = l.length := by rw [signs_mk, List.length_map]
    rw [e1] at l0 few
    refine ev_len_s (ev_nil ⟨b, c, l.length, rfl, B, by omega, by omega, fun j S' h1 h2 B' u => ?_⟩) hl
    obtain ⟨d, e, hd⟩ := atI_in h1 h2
    refine ev_it_str e hl (k _ ?_ S' B' u)
    rw [signs_mk]
    exact List.mem_map.mpr ⟨d, hd, rfl⟩
end DL
namespace DL
open PySem PySem.Spec PyProof.Rows L2
section
variable {S : DS} {R : DK}
theorem ev_sl_ref {a : Addr} {ds : List D} {lo hi : Option Int} (h : rdL S a ds) (k : ∀ p, Fresh S p → R (.ref p) (S.set p (.lst (cutN ds lo hi)))) : rSlice (.ref a) lo hi S R := ⟨ds, h, k⟩
theorem ev_len_r {a : Addr} {ds : List D} (h : rdL S a ds) (k : R (.int ds.length) S) : rLen [.ref a] S R := ⟨ds, h, k⟩
theorem ev_revl {a : Addr} {ds : List D} (h : rdL S a ds) (k : ∀ p, Fresh S p → R (.ref p) (S.set p (.lst ds.reverse))) : rRevL (.ref a) S R := ⟨ds, h, k⟩
theorem ev_list_r {a : Addr} {ds : List D} (h : rdL S a ds) (k : ∀ p, Fresh S p → R (.ref p) (S.set p (.lst ds))) : rList [.ref a] S R := ⟨_, ds, rfl, h, k⟩
theorem ev_list_t {ds : List D} (k : ∀ p, Fresh S p → R (.ref p) (S.set p (.lst ds))) : rList [.tup ds] S R := ⟨_, ds, rfl, rfl, k⟩
theorem ev_tuple_r {a : Addr} {ds : List D} (h : rdL S a ds) (k : R (.tup ds) S) : rTuple [.ref a] S R := ⟨_, ds, rfl, h, k⟩
theorem ev_add_rr {a b : Addr} {ds es : List D} (h1 : S a = some (.lst ds)) (h2 : S b = some (.lst es)) (k : ∀ p, Fresh S p → R (.ref p) (S.set p (.lst (ds ++ es)))) (h : ds.length + es.length ≤ sizeLine) : DL.rAdd (.ref a) (.ref b) S R := ⟨ds, es, h1, h2, h, k⟩
theorem cut_map {α β : Type} (f : α → β) (l : List α) (lo hi : Option Int) : cutN (l.map f) lo hi = (cutN l lo hi).map f := by
  unfold cutN
  rw [List.length_map, List.map_take, List.map_drop]
theorem cut_len {α : Type} (l : List α) (lo hi : Option Int) : (cutN l lo hi).length ≤ l.length := by
  unfold cutN
  simp only [List.length_take, List.length_drop]
  omega
theorem cut_mem {α : Type} {l : List α} {lo hi : Option Int} {x : α} (h : x ∈ cutN l lo hi) : x ∈ l := by
  unfold cutN at h
  exact List.mem_of_mem_drop (List.mem_of_mem_take h)
theorem map_get {α β : Type} {f : α → β} {l : List α} {i : Nat} {d : β} (h : (l.map f)[i]? = some d) : ∃ x, l[i]? = some x ∧ d = f x := by
  rw [List.getElem?_map] at h
  cases e : l[i]? with
  | none => rw [e] at h; cases h
  | some x => rw [e] at h; cases h; exact ⟨x, rfl, rfl⟩
end
end DL
namespace DL
open PySem PySem.Spec PyProof.Rows L2
def isI : D → Bool
  | .int _ => true
  | _ => false
def isBd : D → Bool
  | .bl _ => true
  | _ => false
def isS : D → Bool
  | .str _ => true
  | _ => false
def isT : D → Bool
  | .tup _ => true
  | _ => false
section
variable {S : DS} {R : DK} {d : D} {n : String}
theorem isi_int (h : DTy S d n) (k : R (.bl (isI d || isBd d)) S) : DL.rIsi [d, .ty "int"] S R := ⟨n, _, h, by cases h <;> rfl, k⟩
theorem isi_bool (h : DTy S d n) (k : R (.bl (isBd d)) S) : DL.rIsi [d, .ty "bool"] S R := ⟨n, _, h, by cases h <;> rfl, k⟩
theorem isi_str (h : DTy S d n) (k : R (.bl (isS d)) S) : DL.rIsi [d, .ty "str"] S R := ⟨n, _, h, by cases h <;> rfl, k⟩
theorem isi_tuple (h : DTy S d n) (k : R (.bl (isT d)) S) : DL.rIsi [d, .ty "tuple"] S R := ⟨n, _, h, by cases h <;> rfl, k⟩
end
end DL
namespace DL
open PySem PySem.Spec PyProof.Rows L2
/-! ### draws in short -/
section
variable {b c : Addr} {S : DS} {R : DK}
theorem do_draw {n : Int} (B : Bag b c S) (k : ∀ (j : Nat) S', (j : Int) < n → Bag b c S' → Up (bc b c) S S' → R (.int (j : Nat)) S') (h : 0 < n ∧ n < 1073741824) : sp_draw [.ref b, .int n] S R :=
  ⟨b, c, n, rfl, B, h.1, h.2, fun j S' h0 h1 B' u => by
    obtain ⟨j, rfl⟩ := Int.eq_ofNat_of_zero_le h0
    exact k j S' h1 B' u⟩
theorem do_pickR {a : Addr} {xs : List D} (B : Bag b c S) (off : ¬ bc b c a) (ha : S a = some (.lst xs)) (k : ∀ d ∈ xs, ∀ S', Bag b c S' → Up (bc b c) S S' → R d S') (h : xs ≠ [] ∧ xs.length < 1000000) : sp_pick [.ref b, .ref a] S R :=
  ⟨b, c, _, xs, rfl, B, .inr (.inl ⟨a, rfl, off, ha⟩), h.1, h.2, k⟩
/-- of a list that was made just now -/
theorem do_pickN {p : Addr} {xs : List D} (B : Bag b c S) (hp : Fresh S p) (k : ∀ d ∈ xs, ∀ S', Bag b c S' → Up (bc b c) S S' → R d S') (h : xs ≠ [] ∧ xs.length < 1000000) : sp_pick [.ref b, .ref p] (S.set p (.lst xs)) R :=
  do_pickR (B.set hp) (B.off hp) set_same (fun d hd S' B' u => k d hd S' B' ((Up.set hp).trans u)) h
theorem do_pickT {xs : List D} (B : Bag b c S) (k : ∀ d ∈ xs, ∀ S', Bag b c S' → Up (bc b c) S S' → R d S') (h : xs ≠ [] ∧ xs.length < 1000000) : sp_pick [.ref b, .tup xs] S R :=
  ⟨b, c, _, xs, rfl, B, .inl rfl, h.1, h.2, k⟩
theorem do_pickS {l : List Nat} (B : Bag b c S) (k : ∀ x ∈ l, ∀ S', Bag b c S' → Up (bc b c) S S' → R (.str (mk [x])) S') (h : l ≠ [] ∧ l.length < 1000000) : sp_pick [.ref b, .str (mk l)] S R :=
  ⟨b, c, _, _, rfl, B, .inr (.inr ⟨l, rfl, rfl, by rw [sizeLine_eq]; omega⟩), by rw [signs_mk]; simpa using h.1, by rw [signs_mk, List.length_map]; exact h.2, fun d hd S' B' u => by
    rw [signs_mk] at hd
    obtain ⟨x, hx, rfl⟩ := List.mem_map.mp hd
    exact k x hx S' B' u⟩
end
/-- code points -/
def Ok (l : List Nat) : Prop := ∀ c ∈ l, c < 1114112
theorem Ok.app {a b : List Nat} (h : Ok a) (g : Ok b) : Ok (a ++ b) := fun c q => (List.mem_append.mp q).elim (h c) (g c)
theorem Ok.take {a : List Nat} {n : Nat} (h : Ok a) : Ok (a.take n) := fun c q => h c (List.mem_of_mem_take q)
theorem Ok.drop {a : List Nat} {n : Nat} (h : Ok a) : Ok (a.drop n) := fun c q => h c (List.mem_of_mem_drop q)
theorem Ok.rev {a : List Nat} (h : Ok a) : Ok a.reverse := fun c q => h c (List.mem_reverse.mp q)
theorem Ok.cut {a : List Nat} {lo hi : Option Int} (h : Ok a) : Ok (cutN a lo hi) := fun c q => h c (cut_mem q)
theorem Ok.nil : Ok [] := fun c q => by cases q
theorem Ok.rep {a : List Nat} {n : Nat} (h : Ok a) : Ok (List.replicate n a).flatten := fun c q => by
  obtain ⟨l, h1, h2⟩ := List.mem_flatten.mp q
  rw [List.eq_of_mem_replicate h1] at h2
  exact h c h2
theorem Ok.str {a : List Nat} (h : Ok a) : PySem.PyData.strOk (mk a) = true := by
  unfold PySem.PyData.strOk
  rw [Array.all_eq_true']
  intro x hx
  have : x ∈ a := by simpa [mk] using hx
  simpa using h x this
theorem rep_len {a : List Nat} {n : Nat} : (List.replicate n a).flatten.length = n * a.length := by simp
theorem ev_mul_si {S : DS} {R : DK} {l : List Nat} {k : Int} (q : R (.str (mk (List.replicate k.toNat l).flatten)) S) (h : (0 ≤ k ∧ k ≤ 1000000) ∧ l.length * k.toNat ≤ 16000000 ∧ l.length ≤ 1000000) : DL.rMul (.str (mk l)) (.int k) S R :=
  ⟨h.1.2, by omega, by rw [mk_len]; exact h.2.2, by rw [mk_len, sizeLine_eq]; omega, by rw [repS_mk]; exact q⟩
/-- ''.join of the list at p -/
theorem ev_join0 {S : DS} {R : DK} {p : Addr} {ls : List (List Nat)} (h : S p = some (.lst (ls.map fun l => .str (mk l)))) (q : R (.str (mk ls.flatten)) S) (n : (ls.map List.length).sum ≤ 16000000) : rJoinD (.str (mk [])) [.ref p] S R := by
  refine ⟨ls.map mk, ?_, ?_, ?_⟩
  · show rdL S p _
    rw [List.map_map]
    exact .inl h
  · have e : (ls.map mk).map (·.length) = ls.map List.length := by
      rw [List.map_map]
      exact List.map_congr_left fun l _ => mk_len l
    rw [e, mk_len]
    simp
    omega
  · have e : ∀ ls : List (List Nat), Str.join (mk []) (ls.map mk) = mk ls.flatten := by
      intro ls
      induction ls with
      | nil => rfl
      | cons a r ih =>
        cases r with
        | nil => simp [Str.join]
        | cons b r =>
          simp only [List.map_cons, Str.join] at ih ⊢
          rw [ih, mk_app, mk_app]
          simp
    have e2 : Txt.join (mk []) (ls.map mk) = mk ls.flatten := (TL.join_eq _ _).trans (e ls)
    rw [e2]
    exact q
end DL
namespace DL
theorem Up.get {N : PySem.Addr → Prop} {S S' : DS} {a : PySem.Addr} {o : DO} (u : Up N S S') (n : ¬ N a) (h : S a = some o) (f : nf o = true := by rfl) : S' a = some o := u a o n h f
end DL

/-! DL16: plain data, how big and how deep; values with parts in the store -/
namespace DL
open PySem PySem.Spec PyProof.Rows L2
theorem ev_lk1 {a : D} {sp : DSp} {S : DS} {R : DK} (k : sp [a] S R) : [a].length = 1 ∧ sp (perm [0] .non [a]) S R := ⟨rfl, k⟩
theorem ev_lk2 {a b : D} {sp : DSp} {S : DS} {R : DK} (k : sp [a, b] S R) : [a, b].length = 2 ∧ sp (perm [0, 1] .non [a, b]) S R := ⟨rfl, k⟩
theorem ev_lk2' {a b : D} {sp : DSp} {S : DS} {R : DK} (k : sp [b, a] S R) : [a, b].length = 2 ∧ sp (perm [1, 0] .non [a, b]) S R := ⟨rfl, k⟩
theorem ev_lk3 {a b c : D} {sp : DSp} {S : DS} {R : DK} (k : sp [a, b, c] S R) : [a, b, c].length = 3 ∧ sp (perm [0, 1, 2] .non [a, b, c]) S R := ⟨rfl, k⟩
theorem ev_lk4 {a b c d : D} {sp : DSp} {S : DS} {R : DK} (k : sp [a, b, c, d] S R) : [a, b, c, d].length = 4 ∧ sp (perm [0, 1, 2, 3] .non [a, b, c, d]) S R := ⟨rfl, k⟩
theorem br_nt {A B : Prop} (k : B) : if (!true) = true then A else B := k
theorem br_nf {A B : Prop} (k : A) : if (!false) = true then A else B := k
theorem set_set {S : DS} {p : Addr} {o o' : DO} : (S.set p o).set p o' = S.set p o' := by
  funext a
  by_cases h : a = p
  · subst h; rw [set_same, set_same]
  · rw [set_ne h, set_ne h, set_ne h]
theorem pl_nil : plDs [] = true := rfl
theorem pl_cons {d : D} {ds : List D} (h : plD d = true) (r : plDs ds = true) : plDs (d :: ds) = true := by rw [plDs, h, r]; rfl
theorem pl_app {a b : List D} (h : plDs a = true) (g : plDs b = true) : plDs (a ++ b) = true := by
  induction a with
  | nil => exact g
  | cons x a ih =>
    have h : plD x = true ∧ plDs a = true := by simpa only [plDs, Bool.and_eq_true] using h
    exact pl_cons h.1 (ih h.2)
theorem pl_map {α : Type} {f : α → D} {l : List α} (h : ∀ x ∈ l, plD (f x) = true) : plDs (l.map f) = true := by
  induction l with
  | nil => rfl
  | cons x l ih => exact pl_cons (h x List.mem_cons_self) (ih fun y hy => h y (List.mem_cons_of_mem _ hy))
theorem pl_mem {ds : List D} {d : D} (h : plDs ds = true) (g : d ∈ ds) : plD d = true := by
  induction ds with
  | nil => cases g
  | cons x l ih =>
    have h : plD x = true ∧ plDs l = true := by simpa only [plDs, Bool.and_eq_true] using h
    rcases List.mem_cons.mp g with rfl | g
    · exact h.1
    · exact ih h.2 g
theorem pl_all {ds : List D} (h : ∀ d ∈ ds, plD d = true) : plDs ds = true := by
  induction ds with
  | nil => rfl
  | cons x l ih => exact pl_cons (h x List.mem_cons_self) (ih fun y hy => h y (List.mem_cons_of_mem _ hy))
theorem pl_tup {ds : List D} (h : plDs ds = true) : plD (.tup ds) = true := by rw [plD]; exact h
theorem pl_str {l : List Nat} (h : Ok l) : plD (.str (mk l)) = true := by rw [plD]; exact h.str
theorem pl_non : plD .non = true := rfl
theorem pl_bl {b : Bool} : plD (.bl b) = true := rfl
theorem pl_int {i : Int} (h : -100000000000000 ≤ i ∧ i ≤ 100000000000000) : plD (.int i) = true := by
  rw [plD, decide_eq_true_eq]
  have : i.natAbs ≤ 100000000000000 := by omega
  exact Nat.lt_of_le_of_lt this (by decide)
theorem strOk_of (s : String) : PySem.PyData.strOk (Str.ofString s) = true := by
  unfold PySem.PyData.strOk
  rw [Str.ofString_eq_toList, Array.all_eq_true']
  intro x hx
  rw [List.mem_toArray, List.mem_map] at hx
  obtain ⟨c, _, rfl⟩ := hx
  have h := c.valid
  have : c.toNat = c.val.toNat := rfl
  simp only [decide_eq_true_eq]
  rw [this]
  unfold UInt32.isValidChar Nat.isValidChar at h
  omega
theorem pl_lit (s : String) : plD (.str (Str.ofString s)) = true := by rw [plD]; exact strOk_of s
/-! how big -/
abbrev blk (d : D) : Nat := (pd d).bulk
abbrev blks (ds : List D) : Nat := PyData.bulkAll (pds ds)
abbrev dep (d : D) : Nat := (pd d).depth
abbrev deps (ds : List D) : Nat := PyData.depthAll (pds ds)
theorem blk_nil : blks [] = 0 := by simp [blks, pds, PyData.bulkAll]
theorem blk_cons {d : D} {ds : List D} : blks (d :: ds) = blk d + 1 + blks ds := by simp [blks, pds, PyData.bulkAll]
theorem blk_tup {ds : List D} : blk (.tup ds) = blks ds := by simp [blk, pd, PyData.bulk]
theorem blk_str {l : List Nat} : blk (.str (mk l)) = l.length := by simp [blk, pd, PyData.bulk, mk]
theorem blk_non : blk .non = 0 := by simp [blk, pd, PyData.bulk]
theorem blk_bl {b : Bool} : blk (.bl b) = 0 := by simp [blk, pd, PyData.bulk]
theorem blk_int {i : Int} : blk (.int i) = 0 := by simp [blk, pd, PyData.bulk]
theorem blk_app {a b : List D} : blks (a ++ b) = blks a + blks b := by
  induction a with
  | nil => simp [blk_nil]
  | cons x a ih => rw [List.cons_append, blk_cons, blk_cons, ih]; omega
theorem dep_nil : deps [] = 0 := by simp [deps, pds, PyData.depthAll]
theorem dep_cons {d : D} {ds : List D} : deps (d :: ds) = max (dep d) (deps ds) := by simp [deps, pds, PyData.depthAll]
theorem dep_tup {ds : List D} : dep (.tup ds) = deps ds + 1 := by simp [dep, pd, PyData.depth]
theorem dep_str {x : Str} : dep (.str x) = 0 := by simp [dep, pd, PyData.depth]
theorem dep_non : dep .non = 0 := by simp [dep, pd, PyData.depth]
theorem dep_bl {b : Bool} : dep (.bl b) = 0 := by simp [dep, pd, PyData.depth]
theorem dep_int {i : Int} : dep (.int i) = 0 := by simp [dep, pd, PyData.depth]
theorem dep_app {a b : List D} : deps (a ++ b) = max (deps a) (deps b) := by
  induction a with
  | nil => simp [dep_nil]
  | cons x a ih => rw [List.cons_append, dep_cons, dep_cons, ih]; omega
theorem dep_le {ds : List D} {n : Nat} (h : ∀ d ∈ ds, dep d ≤ n) : deps ds ≤ n := by
  induction ds with
  | nil => rw [dep_nil]; omega
  | cons x l ih => rw [dep_cons]; exact Nat.max_le.mpr ⟨h x List.mem_cons_self, ih fun y hy => h y (List.mem_cons_of_mem _ hy)⟩
theorem blk_le {ds : List D} {n : Nat} (h : ∀ d ∈ ds, blk d ≤ n) : blks ds ≤ ds.length * (n + 1) := by
  induction ds with
  | nil => rw [blk_nil]; omega
  | cons x l ih =>
    have h1 := h x List.mem_cons_self
    have h2 := ih fun y hy => h y (List.mem_cons_of_mem _ hy)
    rw [blk_cons, List.length_cons, Nat.add_mul]
    omega
/-! values of whom a snapshot is known -/
structure GoodP (k n : Nat) (p : PyData) : Prop where
  ok : okP p = true
  few : p.bulk ≤ k
  deep : p.depth ≤ n
  dict : p.hasDict = true → noL p = true
theorem GoodP.r {k n : Nat} {p : PyData} (g : GoodP k n p) (hk : k ≤ 250000) (hn : n ≤ 150) : GoodR p := ⟨g.ok, by have := g.few; omega, by have := g.deep; omega, g.dict⟩
def Wv (N : Addr → Prop) (S : DS) (k n : Nat) (d : D) : Prop := ∃ p, Sl N S d p ∧ GoodP k n p
theorem Wv.up {N : Addr → Prop} {S S' : DS} {k n : Nat} {d : D} (h : Wv N S k n d) (u : Up N S S') : Wv N S' k n d := let ⟨p, h, g⟩ := h; ⟨p, h.up u, g⟩
theorem Wv.le {N : Addr → Prop} {S : DS} {k n k' n' : Nat} {d : D} (h : Wv N S k n d) (hk : k ≤ k') (hn : n ≤ n') : Wv N S k' n' d := let ⟨p, h, g⟩ := h; ⟨p, h, g.ok, Nat.le_trans g.few hk, Nat.le_trans g.deep hn, g.dict⟩
theorem wv_pl {N : Addr → Prop} {S : DS} {k n : Nat} {d : D} (h : plD d = true) (hk : blk d ≤ k) (hn : dep d ≤ n) : Wv N S k n d :=
  have o := pd_ok d h
  ⟨pd d, sl_pd d h, o.1, hk, hn, fun _ => o.2.2⟩
theorem pds_app {a b : List D} : pds (a ++ b) = pds a ++ pds b := by
  induction a with
  | nil => rfl
  | cons x a ih => rw [List.cons_append, pds, pds, ih]; rfl
theorem SlA.app {N : Addr → Prop} {S : DS} : ∀ {ds es : List D} {ps qs : List PyData}, SlA N S ds ps → SlA N S es qs → SlA N S (ds ++ es) (ps ++ qs)
  | [], _, [], _, _, h => h
  | _ :: _, _, _ :: _, _, .cons h r, g => .cons h (SlA.app r g)
theorem ok_app {a b : List PyData} (h : okPs a = true) (g : okPs b = true) : okPs (a ++ b) = true := by
  induction a with
  | nil => exact g
  | cons x a ih =>
    have h : okP x = true ∧ okPs a = true := by simpa only [okPs, Bool.and_eq_true] using h
    rw [List.cons_append, okPs, h.1, ih h.2]; rfl
theorem bulk_app {a b : List PyData} : PyData.bulkAll (a ++ b) = PyData.bulkAll a + PyData.bulkAll b := by
  induction a with
  | nil => simp [PyData.bulkAll]
  | cons x a ih => rw [List.cons_append, PyData.bulkAll, PyData.bulkAll, ih]; omega
theorem depth_app {a b : List PyData} : PyData.depthAll (a ++ b) = max (PyData.depthAll a) (PyData.depthAll b) := by
  induction a with
  | nil => simp [PyData.depthAll]
  | cons x a ih => rw [List.cons_append, PyData.depthAll, PyData.depthAll, ih]; omega
theorem hasDict_app {a b : List PyData} : PyData.hasDictAll (a ++ b) = (PyData.hasDictAll a || PyData.hasDictAll b) := by
  induction a with
  | nil => simp [PyData.hasDictAll]
  | cons x a ih => rw [List.cons_append, PyData.hasDictAll, PyData.hasDictAll, ih, Bool.or_assoc]
theorem noL_app {a b : List PyData} : noLs (a ++ b) = (noLs a && noLs b) := by
  induction a with
  | nil => simp [noLs]
  | cons x a ih => rw [List.cons_append, noLs, noLs, ih, Bool.and_assoc]
/-- one item of some kind among plain ones -/
theorem wv_among {N : Addr → Prop} {S : DS} {k n : Nat} {pre post : List D} {d : D} (h : Wv N S k n d) (hp : plDs pre = true) (hq : plDs post = true) {k' n' : Nat} (hk : blks pre + (k + 1) + blks post ≤ k') (hn : max (deps pre) (max n (deps post)) + 1 ≤ n') : Wv N S k' n' (.tup (pre ++ d :: post)) := by
  obtain ⟨p, h, g⟩ := h
  have o1 := pds_ok pre hp
  have o2 := pds_ok post hq
  refine ⟨.tuple (pds pre ++ p :: pds post), .tup ((sl_pds pre hp).app (.cons h (sl_pds post hq))), ?_, ?_, ?_, ?_⟩
  · simp only [okP]
    refine ok_app o1.1 ?_
    rw [okPs, g.ok, o2.1]; rfl
  · simp only [PyData.bulk, bulk_app, PyData.bulkAll]
    have := g.few
    simp only [blks] at hk
    omega
  · simp only [PyData.depth, depth_app, PyData.depthAll]
    have := g.deep
    simp only [deps] at hn
    omega
  · simp only [PyData.hasDict, hasDict_app, PyData.hasDictAll, noL, noL_app, noLs, o1.2.1, o1.2.2, o2.2.1, o2.2.2, Bool.false_or, Bool.or_false, Bool.true_and, Bool.and_true]
    exact g.dict
theorem wv_lst {N : Addr → Prop} {S : DS} {k n : Nat} {a : Addr} {ds : List D} (h : S a = some (.lst ds)) (hN : ¬ N a) (hp : plDs ds = true) (hk : blks ds ≤ k) (hn : deps ds + 1 ≤ n) : Wv N S k n (.ref a) := by
  have o := pds_ok ds hp
  refine ⟨.list (pds ds), .lst hN h (sl_pds ds hp), ?_, ?_, ?_, ?_⟩
  · simp only [okP]; exact o.1
  · simp only [PyData.bulk]; exact hk
  · simp only [PyData.depth]; exact hn
  · simp only [PyData.hasDict]
    intro z
    rw [o.2.1] at z; cases z
theorem wv_dict0 {N : Addr → Prop} {S : DS} {k n : Nat} {a : Addr} (h : S a = some (.dK [])) (hN : ¬ N a) (hn : 1 ≤ n) : Wv N S k n (.ref a) := by
  refine ⟨.dict [], .dict hN h .nil, rfl, by simp [PyData.bulk, PyData.bulkKv], by simp [PyData.depth, PyData.depthKv]; omega, fun _ => rfl⟩
theorem wv_dict1 {N : Addr → Prop} {S : DS} {k n : Nat} {a : Addr} {x : Str} {d : D} (h : S a = some (.dK [(.inr x, d)])) (hN : ¬ N a) (hx : PySem.PyData.strOk x = true) (hd : plD d = true) (hk : x.length + blk d + 2 ≤ k) (hn : dep d + 1 ≤ n) : Wv N S k n (.ref a) := by
  have o := pd_ok d hd
  refine ⟨.dict [(.str x, pd d)], .dict hN h (.cons (sl_pd d hd) .nil), ?_, ?_, ?_, ?_⟩
  · simp [okP, okPk, hx, o.1]
  · simp only [PyData.bulk, PyData.bulkKv]
    have : x.length = x.cps.size := rfl
    simp only [blk] at hk
    omega
  · simp only [PyData.depth, PyData.depthKv]
    simp only [dep] at hn
    omega
  · intro _
    simp [noL, noLk, o.2.2]
/-- its type is known -/
theorem Sl.ty {N : Addr → Prop} {S : DS} {d : D} {p : PyData} (h : Sl N S d p) : ∃ n, DTy S d n := by
  cases h with
  | non => exact ⟨_, .non⟩
  | bl => exact ⟨_, .bl⟩
  | int => exact ⟨_, .int⟩
  | str => exact ⟨_, .str⟩
  | tup => exact ⟨_, .tup⟩
  | lst _ e _ => exact ⟨_, .lst e⟩
  | dict _ e _ => exact ⟨_, .dK e⟩
theorem SlA.mem {N : Addr → Prop} {S : DS} {d : D} : ∀ {ds : List D} {ps : List PyData}, SlA N S ds ps → d ∈ ds → ∃ p, Sl N S d p
  | _ :: _, _ :: _, .cons h r, m => by
    rcases List.mem_cons.mp m with rfl | m
    · exact ⟨_, h⟩
    · exact SlA.mem r m
theorem Sl.items {N : Addr → Prop} {S : DS} {ds : List D} {p : PyData} (h : Sl N S (.tup ds) p) {d : D} (m : d ∈ ds) : ∃ p, Sl N S d p := by
  cases h with
  | tup h => exact h.mem m
end DL

/-! DL17: the law's own def -/
namespace DL
open PySem PySem.Spec PyProof.Rows L2
structure DefL (K : PySem.W.Frag) (mg : Str → Option Value) (x : Str) (st : Stmt) (p : Str) : Prop where
  ex : ∃ (f : Addr) (fd : FuncData), Fun K x x st f fd ∧ mg x = some (.ref f) ∧ ∀ (s : Shared) (u : Value), BindsTo s fd ⟨[u], []⟩ [(p, u)]
theorem DefL.mk' {K : PySem.W.Frag} {h : Heap} {mg : Str → Option Value} {x p : Str} {st : Stmt} {f : Addr} {oc : Value} {od an : Option Addr} {osl : Array (Option Value)} {kV doc pm cdv ct : Value} (X : K.In h) (G : h.Ns mainGlobals mg)
    (hb : ∀ (kV doc pm : Value) (an : Option Addr) (cdv ct u : Value), bindArgs (PySem.W.fnOf x x (defArgs st) (defBody st) (defScope st) .none kV doc pm an cdv ct) ⟨[u], []⟩ = pure [(p, u)])
    (a : PySem.W.nsIn K mainGlobals x = some (some (.ref f))) (l : K.lookup f = some ⟨oc, od, .func (PySem.W.fnOf x x (defArgs st) (defBody st) (defScope st) .none kV doc pm an cdv ct), osl⟩)
    (c : PySem.W.codeIn K cdv x = true) (k : PySem.W.keepIn K (.ref f) = true) : DefL K mg x st p :=
  ⟨f, _, fun_mk l c k, PySem.W.mg_of X G a, fun s u => .of_eq (hb _ _ _ _ _ _ u)⟩
section
variable {P : Program} {w : World} {K : PySem.W.Frag} {mg : Str → Option Value} {k : Nat} {x p : Str} {st : Stmt} {N : List Str} {sp : DSp} {t : DTS} {fa : Addr}
theorem DefL.fin (D : DefL K mg x st p) (hfa : mg x = some (.ref fa)) (Sc : FnScope N [p] (defScope st)) (len : ∀ ds S R, sp ds S R → ds.length = 1)
    (hb : ∀ (base : Heap) (f : Addr) (cdv : Value) (A : Around) (outer : List Env) (s : Shared) (H : Hp) (E : XK), K.In base → base.Ns mainGlobals mg → Room k (bodyX P w K mg base N x st f cdv A outer s H E).A → (bodyX P w K mg base N x st f cdv A outer s H E).A.guards = some [] → DSs (bodyX P w K mg base N x st f cdv A outer s H E) (defBody st) t)
    (read : ∀ ds S R, sp ds S R → t { nx := fun _ S' => R .non S', rt := R } (dstart N ds) S) :
    ∃ fd : FuncData, (∀ (s : Shared) (u : Value), BindsTo s fd ⟨[u], []⟩ [(p, u)]) ∧ ∀ base : Heap, K.In base → base.Ns mainGlobals mg → FnD P w K mg base (k + 1) fa fd [p] sp := by
  obtain ⟨f, fd, F, hm, b⟩ := D.ex
  have e := hfa.symm.trans hm
  cases e
  exact ⟨fd, b, fun base hb1 hb2 => fnD_of F Sc len (fun cdv A outer s H E hr gd => hb base _ cdv A outer s H E hb1 hb2 hr gd) read⟩
end
theorem scrS_at {a : Addr} {ns : List Int} : scrS a ns a = some (.fro (ns.map D.int)) := by unfold scrS; rw [if_pos rfl]
end DL

namespace K29
open PySem PySem.Spec PyProof.Rows L2 DL
local macro_rules | `(tactic| walk_at "slk") => `(tactic| first
  | exact set_same
  | assumption
  | (refine lk ?_ rfl (by assumption); walk_at "slk")
  | (refine Eq.trans (set_ne (by first | assumption | exact Ne.symm (by assumption))) ?_; walk_at "slk"))
local macro_rules | `(tactic| walk_at "side") => `(tactic| first
  | assumption
  | omega
  | ((try unfold CMul); (try unfold CDiv); (try unfold CPow); (try simp only [sizeLine_eq, List.length_append, List.length_cons, List.length_nil, List.length_take, List.length_drop, List.length_reverse, List.length_map, List.length_singleton, cutN_nn', cutN_no, cutN_on]); omega)
  | ((try unfold CMul); (try unfold CDiv); (try unfold CPow); refine ⟨?_, ?_⟩ <;> omega)
  | ((try simp only [List.length_append, List.length_cons, List.length_nil, List.length_map]); refine ⟨?_, ?_, ?_, ?_⟩ <;> omega)
  | ((try simp only [List.length_append, List.length_cons, List.length_nil, List.length_map]); refine ⟨?_, ?_⟩ <;> omega)
  | (unfold CPow; refine ⟨?_, ?_, ?_⟩ <;> first | decide | omega)
  | decide)
local macro_rules | `(tactic| walk_at "ev1") => `(tactic| first
  | ((with_reducible apply ev_var); (focus exact rfl))
  | (with_reducible refine ev_con ?_)
  | (with_reducible refine ev_op ?_)
  | (with_reducible refine ev_un ?_)
  | (with_reducible refine ev_b ?_)
  | (with_reducible refine ev_bl ?_)
  | ((with_reducible refine ev_seq ?_); (try simp only [List.set_cons_zero, List.set_cons_succ]))
  | (with_reducible refine ev_cons ?_)
  | (with_reducible refine ev_nil ?_)
  | (with_reducible refine ev_call ?_)
  | (with_reducible refine ev_callK ?_)
  | (with_reducible refine ev_lk1 ?_)
  | (with_reducible refine ev_lk2 ?_)
  | (with_reducible refine ev_lk2' ?_)
  | (with_reducible refine ev_lk3 ?_)
  | (with_reducible refine ev_lk4 ?_)
  | (with_reducible refine br_nt ?_)
  | (with_reducible refine br_nf ?_)
  | (with_reducible refine ev_cb ?_)
  | (with_reducible refine ev_set ?_)
  | (with_reducible refine ev_asg ?_)
  | (with_reducible refine ev_ret ?_)
  | (with_reducible refine ev_ifS ?_)
  | (with_reducible refine ev_next ?_)
  | (with_reducible refine ev_tup ?_)
  | (with_reducible refine ev_lst ?_)
  | ((with_reducible refine ev_small ?_ ?_); rotate_left; (first | (focus walk_at "side") | rotate_left))
  | (with_reducible refine ev_gname ?_)
  | ((with_reducible refine ev_gtup ?_ ?_); (focus exact rfl))
  | (with_reducible refine ev_gcons ?_)
  | (with_reducible refine ev_gnil ?_)
  | (with_reducible refine ev_gsub ?_)
  | (with_reducible refine ev_par ?_)
  | (with_reducible refine ev_par3 ?_)
  | (with_reducible refine ev_two ?_)
  | (with_reducible refine ev_three ?_)
  | (with_reducible refine ev_andT ?_)
  | (with_reducible refine ev_orT ?_)
  | (with_reducible refine ev_notT ?_)
  | (with_reducible refine ev_andV ?_)
  | (with_reducible refine ev_orV ?_)
  | (with_reducible refine ev_notV ?_)
  | (with_reducible refine ev_if ?_)
  | (with_reducible refine ev_chain ?_)
  | (with_reducible refine ev_chain3 ?_)
  | (with_reducible refine ev_nopart ?_)
  | (with_reducible refine ev_part ?_)
  | (with_reducible refine ev_int ?_)
  | (with_reducible refine ev_slice ?_)
  | (with_reducible refine ev_sl_tup ?_)
  | ((with_reducible refine ev_sl_str ?_ ?_); rotate_left; (first | (focus walk_at "side") | rotate_left))
  | (with_reducible refine ev_m ?_)
  | (with_reducible refine ev_m1 ?_)
  | (with_reducible refine ev_truth ?_)
  | (with_reducible refine ev_tr_bl ?_)
  | (with_reducible refine ev_tr_non ?_)
  | (with_reducible refine ev_tr_tup ?_)
  | (with_reducible refine ev_break ?_)
  | (with_reducible refine ev_cont ?_)
  | (with_reducible refine ev_drop ?_)
  | (with_reducible refine ev_add_ii ?_)
  | ((with_reducible refine ev_add_ss ?_ ?_); rotate_left; (first | (focus walk_at "side") | rotate_left))
  | ((with_reducible refine ev_add_tt ?_ ?_); rotate_left; (first | (focus walk_at "side") | rotate_left))
  | (with_reducible refine ev_sub ?_)
  | ((with_reducible refine ev_mul ?_ ?_); rotate_left; (first | (focus walk_at "side") | rotate_left))
  | ((with_reducible refine ev_div ?_ ?_); rotate_left; (first | (focus walk_at "side") | rotate_left))
  | ((with_reducible refine ev_mod ?_ ?_); rotate_left; (first | (focus walk_at "side") | rotate_left))
  | ((with_reducible refine ev_pow ?_ ?_); rotate_left; (first | (focus walk_at "side") | rotate_left))
  | (with_reducible refine ev_neg ?_)
  | (with_reducible refine ev_lt ?_)
  | (with_reducible refine ev_le ?_)
  | (with_reducible refine ev_gt ?_)
  | (with_reducible refine ev_ge ?_)
  | (with_reducible refine ev_isN ?_)
  | (with_reducible refine ev_notN ?_)
  | ((with_reducible apply ev_it_tup); (focus exact rfl))
  | ((with_reducible apply ev_it_ref); (focus (refine Or.inl ?_; walk_at "slk")); (focus exact rfl))
  | (with_reducible refine ev_eq_ii ?_)
  | (with_reducible refine ev_ne_ii ?_)
  | (with_reducible refine ev_eq_ss ?_)
  | (with_reducible refine ev_ne_ss ?_)
  | (with_reducible refine ev_eq_S ?_)
  | (with_reducible refine ev_ne_S ?_)
  | ((with_reducible refine ev_len_s ?_ ?_); rotate_left; (first | (focus walk_at "side") | rotate_left))
  | (with_reducible refine ev_len_t ?_)
  | (with_reducible refine ev_abs ?_)
  | (with_reducible refine ev_min ?_)
  | ((with_reducible refine ev_back_s ?_ ?_); rotate_left; (first | (focus walk_at "side") | rotate_left))
  | (with_reducible refine ev_back_t ?_)
  | (with_reducible refine ev_tuple_t ?_)
  | ((with_reducible apply isi_int); (focus (first | assumption | exact DTy.tup | exact DTy.int | exact DTy.str | exact DTy.bl | exact DTy.non)))
  | ((with_reducible apply isi_bool); (focus (first | assumption | exact DTy.tup | exact DTy.int | exact DTy.str | exact DTy.bl | exact DTy.non)))
  | ((with_reducible apply isi_str); (focus (first | assumption | exact DTy.tup | exact DTy.int | exact DTy.str | exact DTy.bl | exact DTy.non)))
  | ((with_reducible apply isi_tuple); (focus (first | assumption | exact DTy.tup | exact DTy.int | exact DTy.str | exact DTy.bl | exact DTy.non)))
  | (with_reducible refine ev_for ?_)
  | (with_reducible refine ev_rng1 ?_)
  | ((with_reducible refine ev_rng1' ?_ ?_); rotate_left; (first | (focus walk_at "side") | rotate_left))
  | (with_reducible refine ev_rng2 ?_)
  | ((with_reducible refine ev_rng2' ?_ ?_); rotate_left; (first | (focus walk_at "side") | rotate_left))
  | (with_reducible refine ev_tup1 ?_)
  | (with_reducible refine ev_tup1' ?_)
  | (with_reducible refine ev_lc ?_)
  | (with_reducible refine yes_tt ?_)
  | ((with_reducible apply ty_list); (focus (walk_at "slk")))
  | (with_reducible refine br_t ?_)
  | (with_reducible refine br_f ?_))
local macro_rules | `(tactic| walk_at "hb") => `(tactic| (simp only [decide_eq_true_eq, decide_eq_false_iff_not, Bool.not_eq_true', Bool.not_eq_false', Bool.not_eq_eq_eq_not, Bool.not_true, Bool.not_false] at *))
local macro_rules | `(tactic| walk_at "ev") => `(tactic| repeat' walk_at "ev1")
local macro_rules | `(tactic| walk_at "evs") => `(tactic| repeat' (first | walk_at "ev1" | (with_reducible refine br ?_ ?_ <;> intro hbr <;> (try simp only [decide_eq_true_eq, decide_eq_false_iff_not, Bool.not_eq_true', Bool.not_eq_false', Bool.not_eq_eq_eq_not, Bool.not_true, Bool.not_false] at hbr))))
local macro_rules | `(tactic| walk_at "bag") => `(tactic| first
  | assumption
  | (exact Bag.set (by assumption) (by assumption))
  | (refine Bag.set ?_ (by assumption); walk_at "bag")
  | (refine Bag.up ?_ (by assumption); walk_at "bag"))
local macro_rules | `(tactic| walk_at "ups") => `(tactic| first
  | exact Up.refl
  | assumption
  | (refine Up.trans ?_ (Up.set (by assumption)); walk_at "ups")
  | (refine Up.trans ?_ (Up.of (by assumption)); walk_at "ups")
  | (refine Up.trans ?_ (by assumption); walk_at "ups"))
local macro_rules | `(tactic| walk_at "ok") => `(tactic| first
  | assumption
  | exact Ok.nil
  | (refine Ok.app ?_ ?_ <;> walk_at "ok")
  | (refine Ok.take ?_; walk_at "ok")
  | (refine Ok.drop ?_; walk_at "ok")
  | (refine Ok.rev ?_; walk_at "ok")
  | (refine Ok.cut ?_; walk_at "ok")
  | (refine Ok.rep ?_; walk_at "ok")
  | (intro c hc; simp only [List.mem_cons, List.mem_nil_iff, or_false] at hc; omega))
local macro_rules | `(tactic| walk_at "off") => `(tactic| first
  | assumption
  | (refine Bag.off ?_ (by assumption); walk_at "bag")
  | exact id)
local macro_rules | `(tactic| walk_at "lku") => `(tactic| first
  | exact set_same
  | assumption
  | (refine lk ?_ rfl (by assumption); walk_at "lku")
  | (refine Up.get (by assumption) (by walk_at "off") ?_; walk_at "lku")
  | (refine Eq.trans (set_ne (by first | assumption | exact Ne.symm (by assumption))) ?_; walk_at "lku"))
local macro_rules | `(tactic| walk_at "pls") => `(tactic| repeat' (first
  | exact pl_nil
  | exact pl_non
  | exact pl_bl
  | exact pl_lit _
  | assumption
  | (refine pl_cons ?_ ?_)
  | (refine pl_tup ?_)
  | (refine pl_app ?_ ?_)
  | (refine pl_str ?_; (walk_at "ok"))
  | (refine pl_int ?_; (constructor <;> omega))))
local macro_rules | `(tactic| walk_at "blk") => `(tactic| (try simp only [blk_nil, blk_cons, blk_tup, blk_str, blk_non, blk_bl, blk_int, blk_app, dep_nil, dep_cons, dep_tup, dep_str, dep_non, dep_bl, dep_int, dep_app, List.length_append, List.length_take, List.length_drop, List.length_reverse, List.length_cons, List.length_nil]))
local macro_rules | `(tactic| walk_at "evn") => `(tactic| repeat' ((fail_if_success (with_reducible refine ev_ifS ?_)); (walk_at "ev1")))
theorem lit_0 : (Str.ofString "form") = mk [102, 111, 114, 109] := by decide +kernel
theorem lit_1 : (Str.ofString "range") = mk [114, 97, 110, 103, 101] := by decide +kernel
theorem lit_2 : (Str.ofString "") = mk [] := by decide +kernel
theorem lit_3 : (Str.ofString "begin") = mk [98, 101, 103, 105, 110] := by decide +kernel
theorem lit_4 : (Str.ofString "edit") = mk [101, 100, 105, 116] := by decide +kernel
theorem lit_5 : (Str.ofString "touch") = mk [116, 111, 117, 99, 104] := by decide +kernel
theorem lit_6 : (Str.ofString "aaab") = mk [97, 97, 97, 98] := by decide +kernel
theorem lit_7 : (Str.ofString "x0-") = mk [120, 48, 45] := by decide +kernel
theorem lit_8 : (Str.ofString "~ ") = mk [126, 32] := by decide +kernel
theorem lit_9 : (Str.ofString "ab\n") = mk [97, 98, 10] := by decide +kernel
theorem lit_10 : (Str.ofString "a\n") = mk [97, 10] := by decide +kernel
theorem lit_11 : (Str.ofString "ab") = mk [97, 98] := by decide +kernel
theorem lit_12 : (Str.ofString "a") = mk [97] := by decide +kernel
theorem lit_13 : (Str.ofString "x") = mk [120] := by decide +kernel
theorem lit_14 : (Str.ofString "\n") = mk [10] := by decide +kernel
theorem lit_15 : (Str.ofString "(w)") = mk [40, 119, 41] := by decide +kernel
theorem lit_16 : (Str.ofString "let x =") = mk [108, 101, 116, 32, 120, 32, 61] := by decide +kernel
theorem lit_17 : (Str.ofString "give w over 2") = mk [103, 105, 118, 101, 32, 119, 32, 111, 118, 101, 114, 32, 50] := by decide +kernel
theorem lit_18 : (Str.ofString "give w over 4") = mk [103, 105, 118, 101, 32, 119, 32, 111, 118, 101, 114, 32, 52] := by decide +kernel
theorem lit_19 : (Str.ofString "24") = mk [50, 52] := by decide +kernel
theorem lit_20 : (Str.ofString "4") = mk [52] := by decide +kernel
theorem lit_21 : (Str.ofString "abab") = mk [97, 98, 97, 98] := by decide +kernel
theorem lit_22 : (Str.ofString "aa") = mk [97, 97] := by decide +kernel
theorem lit_23 : (Str.ofString "aaa") = mk [97, 97, 97] := by decide +kernel
theorem lit_24 : (Str.ofString "abxab") = mk [97, 98, 120, 97, 98] := by decide +kernel
theorem lit_25 : (Str.ofString "abcab") = mk [97, 98, 99, 97, 98] := by decide +kernel
theorem lit_26 : (Str.ofString "ababa") = mk [97, 98, 97, 98, 97] := by decide +kernel
theorem lit_27 : (Str.ofString "aba") = mk [97, 98, 97] := by decide +kernel
theorem lit_28 : (Str.ofString "let x = (w) over ") = mk [108, 101, 116, 32, 120, 32, 61, 32, 40, 119, 41, 32, 111, 118, 101, 114, 32] := by decide +kernel
theorem lit_29 : (Str.ofString "ba") = mk [98, 97] := by decide +kernel
theorem lit_30 : (Str.ofString "2") = mk [50] := by decide +kernel
theorem lit_31 : (Str.ofString "qqqqq") = mk [113, 113, 113, 113, 113] := by decide +kernel
theorem lit_32 : (Str.ofString "q") = mk [113] := by decide +kernel
theorem lit_33 : (Str.ofString "zz") = mk [122, 122] := by decide +kernel
theorem lit_34 : (Str.ofString "z") = mk [122] := by decide +kernel
theorem lit_35 : (Str.ofString "y") = mk [121] := by decide +kernel
local macro_rules | `(tactic| walk_at "lits") => `(tactic| simp only [lit_0, lit_1, lit_2, lit_3, lit_4, lit_5, lit_6, lit_7, lit_8, lit_9, lit_10, lit_11, lit_12, lit_13, lit_14, lit_15, lit_16, lit_17, lit_18, lit_19, lit_20, lit_21, lit_22, lit_23, lit_24, lit_25, lit_26, lit_27, lit_28, lit_29, lit_30, lit_31, lit_32, lit_33, lit_34, lit_35])
local macro_rules | `(tactic| walk_at "litsat") => `(tactic| simp only [lit_0, lit_1, lit_2, lit_3, lit_4, lit_5, lit_6, lit_7, lit_8, lit_9, lit_10, lit_11, lit_12, lit_13, lit_14, lit_15, lit_16, lit_17, lit_18, lit_19, lit_20, lit_21, lit_22, lit_23, lit_24, lit_25, lit_26, lit_27, lit_28, lit_29, lit_30, lit_31, lit_32, lit_33, lit_34, lit_35] at *)
abbrev sp__law_draw : DSp := sp_draw
abbrev N__law_draw : List Str := ["bag", "below", "cell", "found"]
abbrev ps__law_draw : List Str := ["bag", "below"]
def t__law_draw : DTS := (dSeq (dWhile (dAndT (dB (dOp (DL.rEq false) (dOp rItem (dVar 0) (dC (.int 1))) (dC (.int 0)))) (dB (dOp (DL.rEq true) (dOp rItem (dVar 0) (dC (.int 0))) (dLst dNil)))) (dSeq (dSet 2 (dM "list" rPopD (dOp rItem (dVar 0) (dC (.int 0))) dNil))
  (dAsg (dIf (dB (dOp rGt (dVar 2) (dOp DL.rPow (dC (.int 10)) (dC (.int 9))))) (dVar 2) (dC (.int 0))) (dgSub (dVar 0) (dC (.int 1)) rSetD))))
  (dSeq (dIfS (dB (dOp rGt (dOp rItem (dVar 0) (dC (.int 1))) (dC (.int 0)))) (dSeq (dSet 3 (dOp DL.rMod (dOp rItem (dVar 0) (dC (.int 1))) (dVar 1)))
  (dSeq (dAsg (dOp DL.rDiv (dOp rItem (dVar 0) (dC (.int 1))) (dVar 1)) (dgSub (dVar 0) (dC (.int 1)) rSetD))
  (dRet (dVar 3)))) dNext)
  (dSeq (dAsg (dOp DL.rMod (dOp DL.rAdd (dOp DL.rMul (dOp rItem (dVar 0) (dC (.int 2))) (dC (.int 48271))) (dC (.int 11))) (dC (.int 2147483647))) (dgSub (dVar 0) (dC (.int 2)) rSetD))
  (dRet (dOp DL.rMod (dOp DL.rDiv (dOp DL.rMod (dOp DL.rMul (dOp rItem (dVar 0) (dC (.int 2))) (dOp rItem (dVar 0) (dC (.int 2)))) (dC (.int 2147483629))) (dC (.int 7))) (dVar 1))))))
theorem read__law_draw : ∀ ds S R, sp__law_draw ds S R → t__law_draw { nx := fun _ S' => R .non S', rt := R } (dstart N__law_draw ds) S := by
  intro ds S R ⟨b, c, n, e, B, h0, h1, k⟩
  subst e
  refine rd [some _, some _, none, none] rfl ?_
  unfold t__law_draw
  obtain ⟨ne, ns, d, m, hb, hc, hn, hd, hm, hm2⟩ := B
  walk_at "ev"
  refine ev_while (fun l τ S' => ∃ (x : Option D) (ns : List Int) (d : Int), ns.length = l ∧ τ = [some (.ref b), some (.int n), x, none] ∧ S' b = some (.lst [.ref c, .int d, .int m]) ∧ S' c = some (.lst (ns.map D.int)) ∧ (∀ n ∈ ns, 0 ≤ n) ∧ 0 ≤ d ∧ Up (bc b c) S S')
    (fun τ S' => ∃ (x : Option D) (ns : List Int) (d : Int), τ = [some (.ref b), some (.int n), x, none] ∧ S' b = some (.lst [.ref c, .int d, .int m]) ∧ S' c = some (.lst (ns.map D.int)) ∧ (∀ n ∈ ns, 0 ≤ n) ∧ 0 ≤ d ∧ Up (bc b c) S S') ⟨ns.length, none, ns, d, rfl, rfl, hb, hc, hn, hd, .refl⟩ ?_ ?_
  · clear hb hc hn hd ns d
    rintro nx hOut l τ S' ⟨x, ns, d, rfl, rfl, hb, hc, hn, hd, u⟩
    walk_at "evs"
    · intro p hp
      refine ne_nil hc hp (ev_bl ?_)
      cases ns with
      | nil => exact hOut _ _ ⟨x, [], d, rfl, lk hb rfl hp, lk hc rfl hp, hn, hd, u.trans (.set hp)⟩
      | cons n0 ns0 =>
        refine br_t ?_
        refine ev_go fun N hN => ?_
        obtain ⟨init, last, e⟩ : ∃ init last, n0 :: ns0 = init ++ [last] := ⟨_, _, (List.dropLast_concat_getLast (List.cons_ne_nil n0 ns0)).symm⟩
        rw [e] at hc hn hN
        rw [List.map_append] at hc
        have hl : 0 ≤ last := hn last (by simp)
        have hb2 : ((S'.set p (.lst [])).set c (.lst (init.map D.int))) b = some (.lst [.ref c, .int d, .int m]) := by rw [set_ne ne]; exact lk hb rfl hp
        walk_at "ev"
        refine ev_pop (lk hc rfl hp) ?_
        walk_at "evs"
        all_goals refine ev_setL hb2 rfl (hN init.length _ _ (by simp) ?_)
        · exact ⟨some (.int last), init, last, rfl, rfl, set_same, by rw [set_ne (Ne.symm ne)]; exact set_same, fun n hn' => hn n (by simp [hn']), hl, ((u.trans (.set hp)).trans (.upd (.inr rfl))).trans (.upd (.inl rfl))⟩
        · exact ⟨some (.int last), init, 0, rfl, rfl, set_same, by rw [set_ne (Ne.symm ne)]; exact set_same, fun n hn' => hn n (by simp [hn']), by decide, ((u.trans (.set hp)).trans (.upd (.inr rfl))).trans (.upd (.inl rfl))⟩
    · exact hOut _ _ ⟨x, ns, d, rfl, hb, hc, hn, hd, u⟩
  · clear hb hc hn hd ns d
    rintro τ S1 ⟨x, ns, d, rfl, hb, hc, hn, hd, u⟩
    walk_at "evs"
    · have q : 0 < d := by assumption
      have := Int.emod_nonneg d (show n ≠ 0 by omega)
      have := Int.emod_lt_of_pos d h0
      refine ev_setL hb rfl ?_
      walk_at "ev"
      exact k _ _ (by omega) (by omega) ⟨ne, ns, d / n, m, set_same, by rw [set_ne (Ne.symm ne)]; exact hc, hn, Int.ediv_nonneg hd (by omega), hm, hm2⟩ (u.trans (.upd (.inl rfl)))
    · refine ev_setL hb rfl ?_
      have := Int.emod_nonneg (m * 48271 + 11) (show (2147483647 : Int) ≠ 0 by decide)
      have := Int.emod_lt_of_pos (m * 48271 + 11) (show (0 : Int) < 2147483647 by decide)
      have hb2 : (S1.set b (.lst ([D.ref c, .int d, .int m].set 2 (.int ((m * 48271 + 11) % 2147483647))))) b = some (.lst [D.ref c, .int d, .int ((m * 48271 + 11) % 2147483647)]) := set_same
      have hc2 : (S1.set b (.lst ([D.ref c, .int d, .int m].set 2 (.int ((m * 48271 + 11) % 2147483647))))) c = some (.lst (ns.map D.int)) := by rw [set_ne (Ne.symm ne)]; exact hc
      have u2 : Up (bc b c) S (S1.set b (.lst ([D.ref c, .int d, .int m].set 2 (.int ((m * 48271 + 11) % 2147483647))))) := u.trans (.upd (.inl rfl))
      show dRet _ _ _ (S1.set b (.lst ([D.ref c, .int d, .int m].set 2 (.int ((m * 48271 + 11) % 2147483647)))))
      generalize (m * 48271 + 11) % 2147483647 = m2 at *
      walk_at "ev"
      have := Int.emod_nonneg (m2 * m2 % 2147483629 / 7) (show n ≠ 0 by omega)
      have := Int.emod_lt_of_pos (m2 * m2 % 2147483629 / 7) h0
      exact k _ _ (by omega) (by omega) ⟨ne, ns, d, m2, hb2, hc2, hn, hd, by omega, by omega⟩ u2
abbrev sp__law_pick : DSp := sp_pick
abbrev N__law_pick : List Str := ["bag", "some"]
abbrev ps__law_pick : List Str := ["bag", "some"]
def t__law_pick : DTS := (dRet (dOp rItem (dVar 1) (dCall sp__law_draw (dCons (dVar 0) (dCons (dCB rLen (dCons (dVar 1) dNil)) dNil)))))
theorem read__law_pick : ∀ ds S R, sp__law_pick ds S R → t__law_pick { nx := fun _ S' => R .non S', rt := R } (dstart N__law_pick ds) S := read_pick rfl
abbrev sp__law_like : DSp := sp_like
abbrev N__law_like : List Str := ["told", "due"]
abbrev ps__law_like : List Str := ["told", "due"]
def t__law_like : DTS := (dRet (dAndV (dOp (DL.rEq false) (dCB rRepr (dCons (dVar 0) dNil)) (dCB rRepr (dCons (dVar 1) dNil))) (dOp (DL.rEq false) (dVar 0) (dVar 1))))
theorem read__law_like : ∀ ds S R, sp__law_like ds S R → t__law_like { nx := fun _ S' => R .non S', rt := R } (dstart N__law_like ds) S := read_like rfl
abbrev sp__law_own_bag : DSp := sp_own_bag
abbrev N__law_own_bag : List Str := ["script", "cells", "mixed", "cell"]
abbrev ps__law_own_bag : List Str := ["script"]
def t__law_own_bag : DTS := (dSeq (dSet 1 (dLc (dIt (dSlice (dVar 0) dNoPart (dPart (dC (.int 63))))) (dgName 3) dYes (dCB rAbs (dCons (dVar 3) dNil)) [3]))
  (dSeq (dSet 2 (dOp DL.rAdd (dC (.int 2611)) (dCB rLen (dCons (dVar 1) dNil))))
  (dSeq (dFor (dIt (dVar 1)) (dgName 3) (dSet 2 (dOp DL.rMod (dOp DL.rAdd (dOp DL.rAdd (dOp DL.rMul (dVar 2) (dC (.int 48271))) (dOp DL.rMod (dVar 3) (dC (.int 2147483629)))) (dC (.int 7))) (dC (.int 2147483647)))))
  (dRet (dLst (dCons (dUn rRevL (dVar 1)) (dCons (dC (.int 0)) (dCons (dVar 2) dNil))))))))
theorem read__law_own_bag : ∀ ds S R, sp__law_own_bag ds S R → t__law_own_bag { nx := fun _ S' => R .non S', rt := R } (dstart N__law_own_bag ds) S := by
  intro ds S R ⟨a, ns, e, ha, hl, k⟩
  subst e
  refine rd [some _, none, none, none] rfl ?_
  unfold t__law_own_bag
  walk_at "ev"
  refine ev_itL ?_
  walk_at "ev"
  refine ev_sl_ref (.inr ha) fun p hp => ?_
  rw [cut_map]
  have hcl := cut_len ns none (some 63)
  generalize cutN ns none (some 63) = cs at *
  refine ev_ref1 set_same ?_
  refine lcB (S0 := S.set p (.lst (cs.map D.int))) (fun q i acc S' => p ≠ q ∧ S' q = some (.lst acc) ∧ S' p = some (.lst (cs.map D.int)) ∧ ∃ ms : List Int, acc = ms.map D.int ∧ (∀ n ∈ ms, 0 ≤ n) ∧ ms.length = i)
    (fun q hq => ⟨fresh_ne set_same rfl hq, set_same, lk set_same rfl hq, [], rfl, by simp, rfl⟩) (fun q i acc S' _ h => .inl h.2.2.1) (fun q i acc S' h => h.2.1) ?_ ?_ rfl
  · rintro q i d acc S' N hd hi ⟨hne, hq, hp', ms, rfl, hm, rfl⟩ _ hN
    obtain ⟨x, hx, rfl⟩ := map_get hd
    walk_at "ev"
    refine ⟨_, hq, by rw [List.length_map] at *; rw [sizeLine_eq] at *; omega, hN _ _ ⟨hne, set_same, by rw [set_ne hne]; exact hp', ms ++ [if x < 0 then -x else x], by simp, ?_, by simp⟩⟩
    intro n hn
    rw [List.mem_append] at hn
    rcases hn with hn | hn
    · exact hm n hn
    · rw [List.mem_singleton] at hn
      subst hn
      split <;> omega
  · rintro q acc S' hq ⟨hne, h1, h2, ms, rfl, hm, hml⟩
    walk_at "ev"
    refine ev_len_r (.inl h1) ?_
    walk_at "ev"
    refine ev_itL ?_
    walk_at "ev"
    refine ev_ref1 h1 ?_
    refine forB (fun i τ S1 => ∃ (x : Option D) (m : Int), τ = [some (.ref a), some (.ref q), some (.int m), x] ∧ S1 q = some (.lst (ms.map D.int)) ∧ 0 ≤ m ∧ (i = 0 → m ≤ 20000000) ∧ (0 < i → m < 2147483647)) (fun τ S1 => ∃ (x : Option D) (m : Int), τ = [some (.ref a), some (.ref q), some (.int m), x] ∧ S1 q = some (.lst (ms.map D.int)) ∧ 0 ≤ m ∧ m < 2147483647) ⟨none, _, rfl, h1, by simp; omega, fun _ => ?_, fun h => by omega⟩ (fun i τ S1 _ ⟨x, m, _, h, _⟩ => .inl h) ?_ ?_ ?_
    · simp only [List.length_map] at *
      rw [sizeLine_eq] at hl
      omega
    · rintro nx N hO i d τ S1 hd hi ⟨x, m, rfl, h1, h3, h4, h5⟩ hN
      obtain ⟨y, hy, rfl⟩ := map_get hd
      have := Int.emod_nonneg y (show (2147483629 : Int) ≠ 0 by decide)
      have := Int.emod_lt_of_pos y (show (0 : Int) < 2147483629 by decide)
      walk_at "ev"
      have := Int.emod_nonneg (m * 48271 + y % 2147483629 + 7) (show (2147483647 : Int) ≠ 0 by decide)
      have := Int.emod_lt_of_pos (m * 48271 + y % 2147483629 + 7) (show (0 : Int) < 2147483647 by decide)
      exact hN _ _ ⟨_, _, rfl, h1, by omega, fun h => by omega, fun _ => by omega⟩
    · rintro τ S1 ⟨x, m, rfl, h1, h3, h4, h5⟩
      refine ⟨x, m, rfl, h1, h3, ?_⟩
      by_cases h : (ms.map D.int).length = 0
      · have := h4 h; omega
      · exact h5 (by omega)
    · rintro τ S1 ⟨x, m, rfl, h1, h3, h4⟩
      walk_at "ev"
      refine ev_revl (.inl h1) fun c hc => ?_
      walk_at "ev"
      intro b hb
      refine k b c _ ⟨?_, ms.reverse, 0, m, set_same, ?_, ?_, by decide, h3, h4⟩
      · exact (fresh_ne set_same rfl hb).symm
      · rw [List.map_reverse]
        exact lk set_same rfl hb
      · intro n hn
        exact hm n (List.mem_reverse.mp hn)

/-! ### edits -/
abbrev ED := Nat × Nat × List Nat
def eD (e : ED) : D := .tup [.int e.1, .int e.2.1, .str (mk e.2.2)]
def doneE (l : List Nat) (e : ED) : List Nat := l.take e.1 ++ e.2.2 ++ l.drop e.2.1
def backE (l : List Nat) (e : ED) : ED := (e.1, e.1 + e.2.2.length, (l.drop e.1).take (e.2.1 - e.1))
def EdOk (l : List Nat) (e : ED) : Prop := e.1 ≤ e.2.1 ∧ e.2.1 ≤ l.length
/-- a value whose type is known, and its items' -/
def Kv (S : DS) (d : D) : Prop := (∃ n, DTy S d n) ∧ ∀ es, d = .tup es → ∀ e ∈ es, ∃ n, DTy S e n
def errD (l : List Nat) : D → D
  | .tup [.int b, .int e, .str _] => if 0 ≤ b ∧ b ≤ e ∧ e ≤ l.length then .non else .str "range"
  | _ => .str "form"
theorem errD_form {l : List Nat} {a b c : D} (h : (isI a && isI b && isS c) = false) : errD l (.tup [a, b, c]) = .str "form" := by
  unfold errD
  split
  · next h2 => cases h2; cases h
  · rfl
def sp_is_integer : DSp := fun ds S R => ∃ d n, ds = [d] ∧ DTy S d n ∧ R (.bl (isI d)) S
abbrev N_is_integer : List Str := ["value"]
abbrev ps_is_integer : List Str := ["value"]
def t_is_integer : DTS := (dRet (dAndV (dCB DL.rIsi (dCons (dVar 0) (dCons (dC (.ty "int")) dNil))) (dNotV (dCB DL.rIsi (dCons (dVar 0) (dCons (dC (.ty "bool")) dNil))))))
theorem read_is_integer : ∀ ds S R, sp_is_integer ds S R → t_is_integer { nx := fun _ S' => R .non S', rt := R } (dstart N_is_integer ds) S := by
  intro ds S R ⟨d, n, e, h, k⟩
  subst e
  refine rd [some _] rfl ?_
  unfold t_is_integer
  walk_at "ev"
  cases h <;> first | exact k | (refine br_t ?_; walk_at "ev"; exact k)
def sp_edit_error : DSp := fun ds S R => ∃ l d, ds = [.str (mk l), d] ∧ l.length ≤ 1000000 ∧ Kv S d ∧ R (errD l d) S
abbrev N_edit_error : List Str := ["text", "value"]
abbrev ps_edit_error : List Str := ["text", "value"]
def t_edit_error : DTS := (dSeq (dIfS (dOrT (dNotT (dTruth (dCB DL.rIsi (dCons (dVar 1) (dCons (dC (.ty "tuple")) dNil))))) (dOrT (dB (dOp (DL.rEq true) (dCB rLen (dCons (dVar 1) dNil)) (dC (.int 3)))) (dOrT (dNotT (dTruth (dCall sp_is_integer (dCons (dOp rItem (dVar 1) (dC (.int 0))) dNil)))) (dNotT (dTruth (dCall sp_is_integer (dCons (dOp rItem (dVar 1) (dC (.int 1))) dNil))))))) (dRet (dC (.str "form"))) dNext)
  (dSeq (dIfS (dNotT (dTruth (dCB DL.rIsi (dCons (dOp rItem (dVar 1) (dC (.int 2))) (dCons (dC (.ty "str")) dNil))))) (dRet (dC (.str "form"))) dNext)
  (dRet (dIf (dB (dChain3 rLe rLe rLe (dC (.int 0)) (dOp rItem (dVar 1) (dC (.int 0))) (dOp rItem (dVar 1) (dC (.int 1))) (dCB rLen (dCons (dVar 0) dNil)))) (dC .non) (dC (.str "range"))))))
theorem three {α : Type} (es : List α) (h : ((es.length : Nat) : Int) = 3) : ∃ a b c, es = [a, b, c] := by
  match es, h with
  | [a, b, c], _ => exact ⟨a, b, c, rfl⟩
  | [], h => simp at h
  | [_], h => simp at h
  | [_, _], h => simp at h
  | _ :: _ :: _ :: _ :: _, h => simp at h; omega
theorem errD_len {l : List Nat} {es : List D} (h : ¬ ((es.length : Nat) : Int) = 3) : errD l (.tup es) = .str "form" := by
  unfold errD
  split
  · next h2 => cases h2; exact absurd rfl h
  · rfl
theorem errD_off {l : List Nat} {d : D} (h : isT d = false) : errD l d = .str "form" := by
  unfold errD
  split
  · cases h
  · rfl
theorem isI_of {d : D} (h : isI d = true) : ∃ i, d = .int i := by
  cases d <;> first | exact ⟨_, rfl⟩ | cases h
theorem isS_of {d : D} (h : isS d = true) : ∃ x, d = .str x := by
  cases d <;> first | exact ⟨_, rfl⟩ | cases h
theorem isT_of {d : D} (h : isT d = true) : ∃ x, d = .tup x := by
  cases d <;> first | exact ⟨_, rfl⟩ | cases h
theorem read_edit_error : ∀ ds S R, sp_edit_error ds S R → t_edit_error { nx := fun _ S' => R .non S', rt := R } (dstart N_edit_error ds) S := by
  intro ds S R ⟨l, d, e, hl, ⟨⟨n, hn⟩, hk⟩, k⟩
  subst e
  refine rd [some _, some _] rfl ?_
  unfold t_edit_error
  walk_at "ev"
  cases ht : isT d with
  | false => 
    refine br_t (br_t ?_)
    walk_at "ev"
    rw [errD_off ht] at k
    exact k
  | true =>
    obtain ⟨es, rfl⟩ := isT_of ht
    refine br_f ?_
    walk_at "ev"
    refine br (fun h => ?_) fun h => ?_
    · simp only [Bool.not_eq_true', decide_eq_false_iff_not] at h
      walk_at "ev"
      rw [errD_len h] at k
      exact k
    · simp only [Bool.not_eq_false', decide_eq_true_eq] at h
      obtain ⟨a, b, c, rfl⟩ := three es h
      obtain ⟨na, ha⟩ := hk _ rfl a (by simp)
      obtain ⟨nb, hb⟩ := hk _ rfl b (by simp)
      obtain ⟨nc, hc⟩ := hk _ rfl c (by simp)
      walk_at "ev"
      refine ⟨_, _, rfl, ha, ?_⟩
      walk_at "ev"
      cases h1 : isI a with
      | false =>
        refine br_t (br_t ?_)
        walk_at "ev"
        rw [errD_form (by rw [h1]; rfl)] at k
        exact k
      | true =>
      refine br_f ?_
      walk_at "ev"
      refine ⟨_, _, rfl, hb, ?_⟩
      walk_at "ev"
      cases h2 : isI b with
      | false =>
        refine br_t ?_
        walk_at "ev"
        rw [errD_form (by rw [h1, h2]; rfl)] at k
        exact k
      | true =>
      refine br_f ?_
      walk_at "ev"
      cases h3 : isS c with
      | false =>
        refine br_t ?_
        walk_at "ev"
        rw [errD_form (by rw [h1, h2, h3]; rfl)] at k
        exact k
      | true =>
      refine br_f ?_
      obtain ⟨i, rfl⟩ := isI_of h1
      obtain ⟨j, rfl⟩ := isI_of h2
      obtain ⟨x, rfl⟩ := isS_of h3
      unfold errD at k
      walk_at "evs"
      all_goals simp only [decide_eq_true_eq, decide_eq_false_iff_not] at *
      · rw [if_pos ⟨by assumption, by assumption, by assumption⟩] at k; exact k
      all_goals (rw [if_neg (by omega)] at k; exact k)
abbrev sp__law_edit_due : DSp := sp_edit_error
abbrev N__law_edit_due : List Str := ["text", "value", "begin", "end", "put", "place"]
abbrev ps__law_edit_due : List Str := ["text", "value"]
def t__law_edit_due : DTS := (dSeq (dIfS (dOrT (dNotT (dTruth (dCB DL.rIsi (dCons (dVar 1) (dCons (dC (.ty "tuple")) dNil))))) (dB (dOp (DL.rEq true) (dCB rLen (dCons (dVar 1) dNil)) (dC (.int 3))))) (dRet (dC (.str "form"))) dNext)
  (dSeq (dAsg (dVar 1) (dgTup 3 (dgCons (dgName 2) (dgCons (dgName 3) (dgCons (dgName 4) dgNil)))))
  (dSeq (dFor (dIt (dTup (dCons (dVar 2) (dCons (dVar 3) dNil)))) (dgName 5) (dIfS (dOrT (dNotT (dTruth (dCB DL.rIsi (dCons (dVar 5) (dCons (dC (.ty "int")) dNil))))) (dTruth (dCB DL.rIsi (dCons (dVar 5) (dCons (dC (.ty "bool")) dNil))))) (dRet (dC (.str "form"))) dNext))
  (dSeq (dIfS (dNotT (dTruth (dCB DL.rIsi (dCons (dVar 4) (dCons (dC (.ty "str")) dNil))))) (dRet (dC (.str "form"))) dNext)
  (dRet (dIf (dAndT (dB (dOp rLe (dC (.int 0)) (dVar 2))) (dAndT (dB (dOp rLe (dVar 2) (dVar 3))) (dB (dOp rLe (dVar 3) (dCB rLen (dCons (dVar 0) dNil)))))) (dC .non) (dC (.str "range"))))))))
theorem isI_form {l : List Nat} {a b c : D} (h : isI a = false ∨ isI b = false ∨ isS c = false) : errD l (.tup [a, b, c]) = .str "form" := by
  apply errD_form
  rcases h with h | h | h <;> simp [h]
theorem read__law_edit_due : ∀ ds S R, sp__law_edit_due ds S R → t__law_edit_due { nx := fun _ S' => R .non S', rt := R } (dstart N__law_edit_due ds) S := by
  intro ds S R ⟨l, d, e, hl, ⟨⟨n, hn⟩, hk⟩, k⟩
  subst e
  refine rd [some _, some _, none, none, none, none] rfl ?_
  unfold t__law_edit_due
  walk_at "ev"
  cases ht : isT d with
  | false => 
    refine br_t (br_t ?_)
    walk_at "ev"
    rw [errD_off ht] at k
    exact k
  | true =>
    obtain ⟨es, rfl⟩ := isT_of ht
    refine br_f ?_
    walk_at "ev"
    refine br (fun h => ?_) fun h => ?_
    · simp only [Bool.not_eq_true', decide_eq_false_iff_not] at h
      walk_at "ev"
      rw [errD_len h] at k
      exact k
    · simp only [Bool.not_eq_false', decide_eq_true_eq] at h
      obtain ⟨a, b, c, rfl⟩ := three es h
      obtain ⟨na, ha⟩ := hk _ rfl a (by simp)
      obtain ⟨nb, hb⟩ := hk _ rfl b (by simp)
      obtain ⟨nc, hc⟩ := hk _ rfl c (by simp)
      walk_at "ev"
      refine ev_itT ?_
      walk_at "ev"
      refine forB (fun i τ S1 => ∃ x, τ = [some (.str (mk l)), some (.tup [a, b, c]), some a, some b, some c, x] ∧ S1 = S ∧ (0 < i → isI a = true) ∧ (1 < i → isI b = true)) (fun τ S1 => ∃ x, τ = [some (.str (mk l)), some (.tup [a, b, c]), some a, some b, some c, x] ∧ S1 = S ∧ isI a = true ∧ isI b = true)
        ⟨none, rfl, rfl, fun h => by omega, fun h => by omega⟩ (fun _ _ _ _ _ => trivial) ?_ (fun τ S1 ⟨x, h1, h2, h3, h4⟩ => ⟨x, h1, h2, h3 (by simp), h4 (by simp)⟩) ?_
      · rintro nx N hO i d τ S1 hd hi ⟨x, rfl, rfl, h1, h2⟩ hN
        have key : ∀ d n, DTy S1 d n → (isI d = false → errD l (.tup [a, b, c]) = .str "form") → (isI d = true → N [some (.str (mk l)), some (.tup [a, b, c]), some a, some b, some c, some d] S1) → 
            dgName 5 d [some (.str (mk l)), some (.tup [a, b, c]), some a, some b, some c, x] S1 fun τ2 S2 => (dIfS (dOrT (dNotT (dTruth (dCB DL.rIsi (dCons (dVar 5) (dCons (dC (.ty "int")) dNil))))) (dTruth (dCB DL.rIsi (dCons (dVar 5) (dCons (dC (.ty "bool")) dNil))))) (dRet (dC (.str "form"))) dNext) ⟨N, R, nx, N⟩ τ2 S2 := by
          intro d n hd hf hg
          walk_at "ev"
          cases hd <;> first
            | (refine br_t (br_t ?_); walk_at "ev"; rw [hf rfl] at k; exact k)
            | (refine br_f ?_; walk_at "ev"; first | (refine br_t ?_; walk_at "ev"; rw [hf rfl] at k; exact k) | (refine br_f ?_; walk_at "ev"; exact hg rfl))
        match i, hi, hd with
        | 0, _, hd => cases hd; exact key a na ha (fun h => isI_form (.inl h)) fun h => hN _ _ ⟨_, rfl, rfl, fun _ => h, fun h => by omega⟩
        | 1, _, hd => cases hd; exact key b nb hb (fun h => isI_form (.inr (.inl h))) fun h => hN _ _ ⟨_, rfl, rfl, fun _ => h1 (by decide), fun _ => h⟩
        | _ + 2, hi, _ => simp at hi; omega
      · rintro τ S1 ⟨x, rfl, rfl, h1, h2⟩
        walk_at "ev"
        cases h3 : isS c with
        | false =>
          refine br_t ?_
          walk_at "ev"
          rw [isI_form (.inr (.inr h3))] at k
          exact k
        | true =>
          refine br_f ?_
          obtain ⟨i, rfl⟩ := isI_of h1
          obtain ⟨j, rfl⟩ := isI_of h2
          obtain ⟨x, rfl⟩ := isS_of h3
          unfold errD at k
          walk_at "evs"
          all_goals simp only [decide_eq_true_eq, decide_eq_false_iff_not] at *
          · rw [if_pos ⟨by assumption, by assumption, by assumption⟩] at k; exact k
          all_goals (rw [if_neg (by omega)] at k; exact k)
/-! many edits -/
def isN : D → Bool := isNonD
def Kv2 (S : DS) (d : D) : Prop := (∃ n, DTy S d n) ∧ ∀ es, d = .tup es → ∀ e ∈ es, Kv S e
def goErr (l : List Nat) : Nat → List D → Option D
  | _, [] => none
  | k, e :: es => if isNonD (errD l e) = true then goErr l (k + 1) es else some (.tup [.str "edit", .int (k : Int), errD l e])
def fstI : D → Int
  | .tup (.int b :: _) => b
  | _ => 0
def sndI : D → Int
  | .tup (_ :: .int e :: _) => e
  | _ => 0
def goTD : Nat → List D → Option Nat
  | k, x :: y :: r => if fstI y ≤ sndI x then some k else goTD (k + 1) (y :: r)
  | _, _ => none
theorem goErr_ok {l : List Nat} : ∀ {es : List D} {k : Nat}, goErr l k es = none → ∃ eds : List ED, es = eds.map eD ∧ ∀ e ∈ eds, EdOk l e
  | [], _, _ => ⟨[], rfl, by simp⟩
  | e :: es, k, h => by
    unfold goErr at h
    split at h
    · next h1 =>
      obtain ⟨eds, h2, h3⟩ := goErr_ok h
      unfold errD at h1
      split at h1
      · next b f p =>
        split at h1
        · next hh =>
          obtain ⟨b, rfl⟩ := Int.eq_ofNat_of_zero_le hh.1
          obtain ⟨f, rfl⟩ := Int.eq_ofNat_of_zero_le (Int.le_trans hh.1 hh.2.1)
          refine ⟨(b, f, p.cps.toList) :: eds, ?_, ?_⟩
          · rw [List.map_cons, h2]
            simp only [eD, mk_of]
          · intro x hx
            rcases List.mem_cons.mp hx with rfl | hx
            · exact ⟨by have := hh.2.1; simpa using this, by have := hh.2.2; simpa using this⟩
            · exact h3 x hx
        · cases h1
      · cases h1
    · cases h
def errsD (l : List Nat) : D → D
  | .tup es => match goErr l 0 es with
    | some x => x
    | none => match goTD 1 es with
      | some k => .tup [.str "touch", .int (k : Int)]
      | none => .non
  | _ => .str "form"
theorem errsD_off {l : List Nat} {d : D} (h : isT d = false) : errsD l d = .str "form" := by
  unfold errsD
  split
  · cases h
  · rfl
theorem goErr_cons {l : List Nat} {k : Nat} {e : D} {es : List D} : goErr l k (e :: es) = if isNonD (errD l e) = true then goErr l (k + 1) es else some (.tup [.str "edit", .int (k : Int), errD l e]) := rfl
theorem goTD_cons {k : Nat} {x y : D} {r : List D} : goTD k (x :: y :: r) = if fstI y ≤ sndI x then some k else goTD (k + 1) (y :: r) := rfl
theorem errsD_some {l : List Nat} {es : List D} {x : D} (h : goErr l 0 es = some x) : errsD l (.tup es) = x := by simp [errsD, h]
theorem errsD_tch {l : List Nat} {es : List D} {k : Nat} (h : goErr l 0 es = none) (h2 : goTD 1 es = some k) : errsD l (.tup es) = .tup [.str "touch", .int (k : Int)] := by simp [errsD, h, h2]
theorem errsD_non {l : List Nat} {es : List D} (h : goErr l 0 es = none) (h2 : goTD 1 es = none) : errsD l (.tup es) = .non := by simp [errsD, h, h2]
def sp_edits_error : DSp := fun ds S R => ∃ l d, ds = [.str (mk l), d] ∧ l.length ≤ 1000000 ∧ Kv2 S d ∧ (∀ es, d = .tup es → es.length ≤ 1000) ∧ R (errsD l d) S
abbrev N_edits_error : List Str := ["text", "value", "k", "item", "error"]
abbrev ps_edits_error : List Str := ["text", "value"]
def t_edits_error : DTS := (dSeq (dIfS (dNotT (dTruth (dCB DL.rIsi (dCons (dVar 1) (dCons (dC (.ty "tuple")) dNil))))) (dRet (dC (.str "form"))) dNext)
  (dSeq (dFor (dEn (dCons (dVar 1) dNil)) (dgTup 2 (dgCons (dgName 2) (dgCons (dgName 3) dgNil))) (dSeq (dSet 4 (dCall sp_edit_error (dCons (dVar 0) (dCons (dVar 3) dNil))))
  (dIfS (dB (dOp rNotN (dVar 4) (dC .non))) (dRet (dTup (dCons (dC (.str "edit")) (dCons (dVar 2) (dCons (dVar 4) dNil))))) dNext)))
  (dSeq (dFor (dRng2 (dCons (dC (.int 1)) (dCons (dCB rLen (dCons (dVar 1) dNil)) dNil))) (dgName 2) (dIfS (dB (dOp rLe (dOp rItem (dOp rItem (dVar 1) (dVar 2)) (dC (.int 0))) (dOp rItem (dOp rItem (dVar 1) (dOp DL.rSub (dVar 2) (dC (.int 1)))) (dC (.int 1))))) (dRet (dTup (dCons (dC (.str "touch")) (dCons (dVar 2) dNil)))) dNext))
  (dRet (dC .non)))))
theorem drop_get {α : Type} {l : List α} {i : Nat} {x : α} (h : l[i]? = some x) : l.drop i = x :: l.drop (i + 1) := by
  obtain ⟨hi, e⟩ := List.getElem?_eq_some_iff.mp h
  rw [List.drop_eq_getElem_cons hi, e]
theorem read_edits_error : ∀ ds S R, sp_edits_error ds S R → t_edits_error { nx := fun _ S' => R .non S', rt := R } (dstart N_edits_error ds) S := by
  intro ds S R ⟨l, d, e, hl, ⟨⟨n, hn⟩, hk⟩, few, k⟩
  subst e
  refine rd [some _, some _, none, none, none] rfl ?_
  unfold t_edits_error
  walk_at "ev"
  cases ht : isT d with
  | false => 
    refine br_t ?_
    walk_at "ev"
    rw [errsD_off ht] at k
    exact k
  | true =>
  obtain ⟨es, rfl⟩ := isT_of ht
  have few := few _ rfl
  refine br_f ?_
  walk_at "ev"
  refine ev_enT ?_
  walk_at "ev"
  refine forB (fun i τ S1 => ∃ x y z, τ = [some (.str (mk l)), some (.tup es), x, y, z] ∧ S1 = S ∧ goErr l 0 es = goErr l i (es.drop i)) (fun τ S1 => ∃ x y z, τ = [some (.str (mk l)), some (.tup es), x, y, z] ∧ S1 = S ∧ goErr l 0 es = none)
    ⟨none, none, none, rfl, rfl, rfl⟩ (fun _ _ _ _ _ => trivial) ?_ (fun τ S1 ⟨x, y, z, h1, h2, h3⟩ => ⟨x, y, z, h1, h2, by rw [h3, enumD_length, List.drop_length]; rfl⟩) ?_
  · rintro nx N hO i d τ S1 hd hi ⟨x, y, z, rfl, rfl, h⟩ hN
    obtain ⟨e, he, rfl⟩ := at_enum hd
    rw [Nat.zero_add] at *
    walk_at "ev"
    refine ⟨l, e, rfl, hl, hk _ rfl e (List.mem_of_getElem? he), ?_⟩
    walk_at "ev"
    rw [drop_get he] at h
    rw [goErr_cons] at h
    cases hh : isNonD (errD l e) with
    | true =>
      refine br_f ?_
      walk_at "ev"
      rw [if_pos hh] at h
      exact hN _ _ ⟨_, _, _, rfl, rfl, h⟩
    | false =>
      refine br_t ?_
      walk_at "ev"
      rw [if_neg (by rw [hh]; decide)] at h
      rw [errsD_some h] at k
      exact k
  · rintro τ S1 ⟨x, y, z, rfl, rfl, h⟩
    obtain ⟨eds, rfl, hok⟩ := goErr_ok h
    rw [List.length_map] at few
    walk_at "ev"
    refine forB (fun i τ S2 => ∃ x y z, τ = [some (.str (mk l)), some (.tup (eds.map eD)), x, y, z] ∧ S2 = S1 ∧ goTD 1 (eds.map eD) = goTD (1 + i) ((eds.map eD).drop i)) (fun τ S2 => S2 = S1 ∧ goTD 1 (eds.map eD) = none)
      ⟨_, _, _, rfl, rfl, rfl⟩ (fun _ _ _ _ _ => trivial) ?_ ?_ ?_
    · rintro nx N hO i d τ S1 hd hi ⟨x, y, z, rfl, rfl, ht⟩ hN
      obtain ⟨rfl, hi2⟩ := at_upTo hd
      rw [List.length_map] at hi2
      have g1 : eds[i + 1]? = some (eds[i + 1]'(by omega)) := List.getElem?_eq_getElem _
      have g0 : eds[i]? = some (eds[i]'(by omega)) := List.getElem?_eq_getElem _
      generalize eds[i + 1]'(by omega) = e1 at g1
      generalize eds[i]'(by omega) = e0 at g0
      have m1 : (eds.map eD)[i + 1]? = some (eD e1) := by rw [List.getElem?_map, g1]; rfl
      have m0 : (eds.map eD)[i]? = some (eD e0) := by rw [List.getElem?_map, g0]; rfl
      rw [drop_get m0, drop_get m1] at ht
      rw [goTD_cons] at ht
      walk_at "ev"
      refine ev_it_tup (d := eD e1) (by rw [show (1 : Int) + (i : Int) = ((i + 1 : Nat) : Int) by omega]; exact L2.atI_nat m1) ?_
      unfold eD
      walk_at "ev"
      refine ev_it_tup (d := eD e0) (by rw [show (1 : Int) + (i : Int) - 1 = ((i : Nat) : Int) by omega]; exact L2.atI_nat m0) ?_
      unfold eD
      walk_at "evs"
      · have hh : (e1.1 : Int) ≤ e0.2.1 := by assumption
        rw [if_pos (by simpa [fstI, sndI, eD] using hh)] at ht
        rw [errsD_tch h ht] at k
        rw [show ((1 + i : Nat) : Int) = 1 + (i : Int) by omega] at k
        exact k
      · have hh : ¬ (e1.1 : Int) ≤ e0.2.1 := by assumption
        rw [if_neg (by simpa [fstI, sndI, eD] using hh)] at ht
        refine hN _ _ ⟨_, _, _, rfl, rfl, ?_⟩
        rw [ht, drop_get m1, show 1 + i + 1 = 1 + (i + 1) by omega]
    · rintro τ S2 ⟨x, y, z, rfl, rfl, ht⟩
      refine ⟨rfl, ?_⟩
      rw [ht, upTo_len]
      generalize hL : (List.drop (((eds.map eD).length : Int) - 1).toNat (eds.map eD)) = L
      have hl2 : L.length ≤ 1 := by rw [← hL, List.length_drop]; omega
      match L, hl2 with
      | [], _ => rfl
      | [_], _ => rfl
      | _ :: _ :: _, h => simp at h
    · rintro τ S2 ⟨rfl, ht⟩
      walk_at "ev"
      rw [errsD_non h ht] at k
      exact k
abbrev sp__law_edits_due : DSp := sp_edits_error
abbrev N__law_edits_due : List Str := ["text", "value", "k", "edit", "error"]
abbrev ps__law_edits_due : List Str := ["text", "value"]
def t__law_edits_due : DTS := (dSeq (dIfS (dNotT (dTruth (dCB DL.rIsi (dCons (dVar 1) (dCons (dC (.ty "tuple")) dNil))))) (dRet (dC (.str "form"))) dNext)
  (dSeq (dFor (dEn (dCons (dVar 1) dNil)) (dgTup 2 (dgCons (dgName 2) (dgCons (dgName 3) dgNil))) (dSeq (dSet 4 (dCall sp__law_edit_due (dCons (dVar 0) (dCons (dVar 3) dNil))))
  (dIfS (dB (dOp rNotN (dVar 4) (dC .non))) (dRet (dTup (dCons (dC (.str "edit")) (dCons (dVar 2) (dCons (dVar 4) dNil))))) dNext)))
  (dSeq (dFor (dRng2 (dCons (dC (.int 1)) (dCons (dCB rLen (dCons (dVar 1) dNil)) dNil))) (dgName 2) (dIfS (dB (dOp rLe (dOp rItem (dOp rItem (dVar 1) (dVar 2)) (dC (.int 0))) (dOp rItem (dOp rItem (dVar 1) (dOp DL.rSub (dVar 2) (dC (.int 1)))) (dC (.int 1))))) (dRet (dTup (dCons (dC (.str "touch")) (dCons (dVar 2) dNil)))) dNext))
  (dRet (dC .non)))))
theorem read__law_edits_due : ∀ ds S R, sp__law_edits_due ds S R → t__law_edits_due { nx := fun _ S' => R .non S', rt := R } (dstart N__law_edits_due ds) S := read_edits_error

def sp_edit_done : DSp := fun ds S R => ∃ l e, ds = [.str (mk l), eD e] ∧ EdOk l e ∧ l.length ≤ 1000000 ∧ e.2.2.length ≤ 1000000 ∧ R (.str (mk (doneE l e))) S
abbrev N_edit_done : List Str := ["text", "edit", "begin", "end", "put"]
abbrev ps_edit_done : List Str := ["text", "edit"]
def t_edit_done : DTS := (dSeq (dAsg (dVar 1) (dgTup 3 (dgCons (dgName 2) (dgCons (dgName 3) (dgCons (dgName 4) dgNil)))))
  (dRet (dOp DL.rAdd (dOp DL.rAdd (dSlice (dVar 0) dNoPart (dPart (dVar 2))) (dVar 4)) (dSlice (dVar 0) (dPart (dVar 3)) dNoPart))))
theorem read_edit_done : ∀ ds S R, sp_edit_done ds S R → t_edit_done { nx := fun _ S' => R .non S', rt := R } (dstart N_edit_done ds) S := by
  rintro ds S R ⟨l, ⟨b, e, p⟩, rfl, ⟨h1, h2⟩, hl, hp, k⟩
  refine rd [some _, some _, none, none, none] rfl ?_
  unfold t_edit_done
  simp only at h1 h2 hp
  unfold eD
  walk_at "ev"
  rw [cutN_no, cutN_on]
  exact k
def sp_edit_back : DSp := fun ds S R => ∃ l e, ds = [.str (mk l), eD e] ∧ EdOk l e ∧ l.length ≤ 1000000 ∧ e.2.2.length ≤ 1000000 ∧ R (eD (backE l e)) S
abbrev N_edit_back : List Str := ["text", "edit", "begin", "end", "put"]
abbrev ps_edit_back : List Str := ["text", "edit"]
def t_edit_back : DTS := (dSeq (dAsg (dVar 1) (dgTup 3 (dgCons (dgName 2) (dgCons (dgName 3) (dgCons (dgName 4) dgNil)))))
  (dRet (dTup (dCons (dVar 2) (dCons (dOp DL.rAdd (dVar 2) (dCB rLen (dCons (dVar 4) dNil))) (dCons (dSlice (dVar 0) (dPart (dVar 2)) (dPart (dVar 3))) dNil))))))
theorem read_edit_back : ∀ ds S R, sp_edit_back ds S R → t_edit_back { nx := fun _ S' => R .non S', rt := R } (dstart N_edit_back ds) S := by
  rintro ds S R ⟨l, ⟨b, e, p⟩, rfl, ⟨h1, h2⟩, hl, hp, k⟩
  refine rd [some _, some _, none, none, none] rfl ?_
  unfold t_edit_back
  simp only at h1 h2 hp
  unfold eD
  walk_at "ev"
  rw [cutN_nn']
  exact k
def sp_do_touch : DSp := fun ds S R => ∃ e f : ED, ds = [eD e, eD f] ∧ R (.bl (decide (f.1 ≤ e.2.1 ∧ e.1 ≤ f.2.1))) S
abbrev N_do_touch : List Str := ["one", "other"]
abbrev ps_do_touch : List Str := ["one", "other"]
def t_do_touch : DTS := (dRet (dAndV (dOp rGe (dOp rItem (dVar 0) (dC (.int 1))) (dOp rItem (dVar 1) (dC (.int 0)))) (dOp rGe (dOp rItem (dVar 1) (dC (.int 1))) (dOp rItem (dVar 0) (dC (.int 0))))))
theorem read_do_touch : ∀ ds S R, sp_do_touch ds S R → t_do_touch { nx := fun _ S' => R .non S', rt := R } (dstart N_do_touch ds) S := by
  rintro ds S R ⟨⟨b, e, p⟩, ⟨c, d, q⟩, rfl, k⟩
  refine rd [some _, some _] rfl ?_
  unfold t_do_touch
  unfold eD
  simp only at k
  walk_at "evs"
  · have h : (c : Int) ≤ e := by assumption
    have h2 : decide ((b : Int) ≤ d) = decide (c ≤ e ∧ b ≤ d) := by
      rw [Bool.eq_iff_iff]; simp; omega
    rw [h2]; exact k
  · have h : ¬ (c : Int) ≤ e := by assumption
    rw [decide_eq_false (by omega)] at k
    exact k
abbrev sp__law_do_touch : DSp := sp_do_touch
abbrev N__law_do_touch : List Str := ["one", "other"]
abbrev ps__law_do_touch : List Str := ["one", "other"]
def t__law_do_touch : DTS := (dRet (dNotV (dOrV (dOp rLt (dOp rItem (dVar 0) (dC (.int 1))) (dOp rItem (dVar 1) (dC (.int 0)))) (dOp rLt (dOp rItem (dVar 1) (dC (.int 1))) (dOp rItem (dVar 0) (dC (.int 0)))))))
theorem read__law_do_touch : ∀ ds S R, sp__law_do_touch ds S R → t__law_do_touch { nx := fun _ S' => R .non S', rt := R } (dstart N__law_do_touch ds) S := by
  rintro ds S R ⟨⟨b, e, p⟩, ⟨c, d, q⟩, rfl, k⟩
  refine rd [some _, some _] rfl ?_
  unfold t__law_do_touch
  unfold eD
  simp only at k
  walk_at "evs"
  · have h : (e : Int) < c := by assumption
    rw [decide_eq_false (by omega)] at k
    exact k
  · have h2 : (!decide ((d : Int) < b)) = decide (c ≤ e ∧ b ≤ d) := by
      rw [Bool.eq_iff_iff]; simp; omega
    rw [h2]; exact k
/-! many -/
def Srt (l : List Nat) : Nat → List ED → Prop
  | _, [] => True
  | a, e :: r => a ≤ e.1 ∧ e.1 ≤ e.2.1 ∧ e.2.1 ≤ l.length ∧ Srt l e.2.1 r
def putsL (es : List ED) : Nat := (es.map fun e => e.2.2.length).sum
def doneL (l : List Nat) : Nat → List ED → List Nat
  | a, [] => l.drop a
  | a, e :: r => (l.drop a).take (e.1 - a) ++ e.2.2 ++ doneL l e.2.1 r
def doneR (l : List Nat) : List ED → List Nat
  | [] => l
  | e :: r => doneE (doneR l r) e
theorem Srt.low {l : List Nat} {a b : Nat} (h : b ≤ a) : ∀ {es : List ED}, Srt l a es → Srt l b es
  | [], _ => trivial
  | _ :: _, q => ⟨by have := q.1; omega, q.2⟩
theorem take_mid {α : Type} (l : List α) (a b : Nat) (h : a ≤ b) : l.take a ++ (l.drop a).take (b - a) = l.take b := by
  have e : b = a + (b - a) := by omega
  rw [e, List.take_add]
  simp
theorem doneR_eq {l : List Nat} : ∀ {es : List ED} {a : Nat}, Srt l a es → a ≤ l.length → doneR l es = l.take a ++ doneL l a es
  | [], a, _, h => by
    show l = l.take a ++ l.drop a
    rw [List.take_append_drop]
  | ⟨b, e, p⟩ :: r, a, ⟨h1, h2, h3, h4⟩, h => by
    simp only at h1 h2 h3 h4
    have ih := doneR_eq h4 h3
    show (doneR l r).take b ++ p ++ (doneR l r).drop e = l.take a ++ ((l.drop a).take (b - a) ++ p ++ doneL l e r)
    have e1 : (l.take e).length = e := by rw [List.length_take]; omega
    rw [ih, List.take_append_of_le_length (by omega), List.take_take, Nat.min_eq_left h2, List.drop_append_of_le_length (by omega), List.drop_of_length_le (by omega), List.nil_append, ← List.append_assoc, ← List.append_assoc, take_mid l a b h1]
theorem doneL_len {l : List Nat} : ∀ {es : List ED} {a : Nat}, Srt l a es → (doneL l a es).length ≤ l.length - a + putsL es
  | [], a, _ => by simp [doneL, putsL]
  | e :: r, a, ⟨h1, h2, h3, h4⟩ => by
    have := doneL_len h4
    simp only [doneL, putsL, List.map_cons, List.sum_cons, List.length_append, List.length_take, List.length_drop] at *
    omega
theorem srt_app {l : List Nat} {suf : List ED} : ∀ {pre : List ED} {a : Nat}, a ≤ l.length → Srt l a (pre ++ suf) → ∃ a', a' ≤ l.length ∧ Srt l a' suf
  | [], a, h, q => ⟨a, h, q⟩
  | _ :: _, _, _, ⟨_, _, h3, h4⟩ => srt_app h3 h4
theorem puts_app {a b : List ED} : putsL (a ++ b) = putsL a + putsL b := by simp [putsL]
/-- edits one behind the other -/
structure EdsOk (l : List Nat) (es : List ED) : Prop where
  srt : Srt l 0 es
  len : l.length ≤ 100000
  puts : putsL es ≤ 100000
def sp_edits_done : DSp := fun ds S R => ∃ l es, ds = [.str (mk l), .tup (es.map eD)] ∧ EdsOk l es ∧ R (.str (mk (doneL l 0 es))) S
abbrev N_edits_done : List Str := ["text", "edits", "edit"]
abbrev ps_edits_done : List Str := ["text", "edits"]
def t_edits_done : DTS := (dSeq (dFor (dRev (dVar 1)) (dgName 2) (dSet 0 (dCall sp_edit_done (dCons (dVar 0) (dCons (dVar 2) dNil)))))
  (dRet (dVar 0)))
theorem read_edits_done : ∀ ds S R, sp_edits_done ds S R → t_edits_done { nx := fun _ S' => R .non S', rt := R } (dstart N_edits_done ds) S := by
  rintro ds S R ⟨l, es, rfl, ⟨hs, hl, hp⟩, k⟩
  refine rd [some _, some _, none] rfl ?_
  unfold t_edits_done
  walk_at "ev"
  refine ev_revT ?_
  walk_at "ev"
  refine forB (fun i τ S1 => ∃ pre suf x, es = pre ++ suf ∧ suf.length = i ∧ τ = [some (.str (mk (doneR l suf))), some (.tup (es.map eD)), x] ∧ S1 = S) (fun τ S1 => ∃ x, τ = [some (.str (mk (doneR l es))), some (.tup (es.map eD)), x] ∧ S1 = S)
    ⟨es, [], none, by simp, rfl, rfl, rfl⟩ (fun _ _ _ _ _ => trivial) ?_ ?_ ?_
  · rintro nx N hO i d τ S1 hd hi ⟨pre, suf, x, he, rfl, rfl, rfl⟩ hN
    rw [List.length_reverse, List.length_map] at hi
    have hne : pre ≠ [] := by
      rintro rfl
      rw [he] at hi; simp at hi
    obtain ⟨pre', e, rfl⟩ : ∃ pre' e, pre = pre' ++ [e] := ⟨_, _, (List.dropLast_concat_getLast hne).symm⟩
    have hd2 : d = eD e := by
      rw [he] at hd
      simp only [List.map_append, List.reverse_append, List.map_cons, List.map_nil, List.reverse_cons, List.reverse_nil, List.nil_append] at hd
      rw [List.getElem?_append_right (by simp)] at hd
      simp at hd
      exact hd.symm
    subst hd2
    rw [he, List.append_assoc, List.singleton_append] at hs
    obtain ⟨a, ha, h1, h2, h3, h4⟩ := srt_app (Nat.zero_le _) hs
    have e1 := doneR_eq h4 h3
    have e2 := doneL_len h4
    have e3 : putsL es = putsL pre' + (e.2.2.length + putsL suf) := by rw [he, List.append_assoc, puts_app, puts_app]; simp [putsL]
    have e4 : (doneR l suf).length = e.2.1 + (doneL l e.2.1 suf).length := by rw [e1, List.length_append, List.length_take]; omega
    walk_at "ev"
    refine ⟨doneR l suf, e, rfl, ⟨h2, by omega⟩, by omega, by omega, ?_⟩
    exact hN _ _ ⟨pre', e :: suf, some (eD e), by rw [he, List.append_assoc]; rfl, rfl, rfl, rfl⟩
  · rintro τ S1 ⟨pre, suf, x, he, hl, rfl, rfl⟩
    have hn : pre = [] := by
      rw [he] at hl; simp at hl; exact hl
    subst hn
    rw [List.nil_append] at he
    subst he
    exact ⟨x, rfl, rfl⟩
  · rintro τ S1 ⟨x, rfl, rfl⟩
    walk_at "ev"
    rw [doneR_eq hs (Nat.zero_le _)]
    exact k
def sp__law_done : DSp := fun ds S R => ∃ l es x, ds = [.str (mk l), x] ∧ (x = .tup (es.map eD) ∨ ∃ a, x = .ref a ∧ S a = some (.lst (es.map eD))) ∧ EdsOk l es ∧ R (.str (mk (doneL l 0 es))) S
abbrev N__law_done : List Str := ["text", "edits", "found", "at", "begin", "end", "put"]
abbrev ps__law_done : List Str := ["text", "edits"]
def t__law_done : DTS := (dSeq (dAsg (dTup (dCons (dC (.str "")) (dCons (dC (.int 0)) dNil))) (dgTup 2 (dgCons (dgName 2) (dgCons (dgName 3) dgNil))))
  (dSeq (dFor (dIt (dVar 1)) (dgTup 3 (dgCons (dgName 4) (dgCons (dgName 5) (dgCons (dgName 6) dgNil)))) (dPar 2 3 (dCons (dOp DL.rAdd (dOp DL.rAdd (dVar 2) (dSlice (dVar 0) (dPart (dVar 3)) (dPart (dVar 4)))) (dVar 6)) (dCons (dVar 5) dNil))))
  (dRet (dOp DL.rAdd (dVar 2) (dSlice (dVar 0) (dPart (dVar 3)) dNoPart)))))
theorem read__law_done : ∀ ds S R, sp__law_done ds S R → t__law_done { nx := fun _ S' => R .non S', rt := R } (dstart N__law_done ds) S := by
  rintro ds S R ⟨l, es, x, rfl, hx, ⟨hs, hl, hp⟩, k⟩
  refine rd [some _, some _, none, none, none, none, none] rfl ?_
  unfold t__law_done
  walk_at "ev"
  have hlen := doneL_len hs
  have main : ∀ st : DS → Prop, st S → dForB (dgTup 3 (dgCons (dgName 4) (dgCons (dgName 5) (dgCons (dgName 6) dgNil)))) (dPar 2 3 (dCons (dOp DL.rAdd (dOp DL.rAdd (dVar 2) (dSlice (dVar 0) (dPart (dVar 3)) (dPart (dVar 4)))) (dVar 6)) (dCons (dVar 5) dNil))) ⟨dRet (dOp DL.rAdd (dVar 2) (dSlice (dVar 0) (dPart (dVar 3)) dNoPart)) { nx := fun _ S' => R .non S', rt := R }, R, fun _ _ => False, fun _ _ => False⟩ (es.map eD) st [some (.str (mk l)), some x, some (.str (mk [])), some (.int (0 : Nat)), none, none, none] S := by
    intro st h0
    refine forB (fun i τ S1 => ∃ (pre suf : List ED) (f : List Nat) (a : Nat) (y z w : Option D), es = pre ++ suf ∧ pre.length = i ∧ τ = [some (.str (mk l)), some x, some (.str (mk f)), some (.int (a : Nat)), y, z, w] ∧ S1 = S ∧ Srt l a suf ∧ a ≤ l.length ∧ doneL l 0 es = f ++ doneL l a suf) (fun τ S1 => ∃ (f : List Nat) (a : Nat) (y z w : Option D), τ = [some (.str (mk l)), some x, some (.str (mk f)), some (.int (a : Nat)), y, z, w] ∧ S1 = S ∧ doneL l 0 es = f ++ l.drop a)
      ⟨[], es, [], 0, none, none, none, rfl, rfl, rfl, rfl, hs, Nat.zero_le _, rfl⟩ (fun _ _ _ _ ⟨_, _, _, _, _, _, _, _, _, _, h, _⟩ => h ▸ h0) ?_ ?_ ?_
    · rintro nx N hO i d τ S1 hd hi ⟨pre, suf, f, a, y, z, w, he, rfl, rfl, rfl, h1, h2, h3⟩ hN
      cases suf with
      | nil => rw [he] at hi; simp at hi
      | cons e suf =>
        have hd2 : d = eD e := by
          rw [he, List.map_append, List.getElem?_append_right (by simp)] at hd
          simp at hd
          exact hd.symm
        subst hd2
        obtain ⟨b, e, p⟩ := e
        obtain ⟨g1, g2, g3, g4⟩ := h1
        have hl2 := congrArg List.length h3
        simp only [doneL, List.length_append] at hl2 g1 g2 g3 g4
        unfold eD
        walk_at "ev"
        · rw [cutN_nn']
          exact hN _ _ ⟨pre ++ [(b, e, p)], suf, _, e, _, _, _, by rw [he]; simp, by simp, rfl, rfl, g4, g3, by rw [h3]; simp [doneL]⟩
    · rintro τ S1 ⟨pre, suf, f, a, y, z, w, he, hl, rfl, rfl, h1, h2, h3⟩
      have hn : suf = [] := by
        rw [he] at hl; simp at hl; exact hl
      subst hn
      exact ⟨f, a, y, z, w, rfl, rfl, h3⟩
    · rintro τ S1 ⟨f, a, y, z, w, rfl, rfl, h3⟩
      have hl2 := congrArg List.length h3
      simp only [List.length_append] at hl2
      walk_at "ev"
      · rw [cutN_on, ← h3]
        exact k
  rcases hx with rfl | ⟨a, rfl, ha⟩
  · refine ev_itT ?_
    walk_at "ev"
    exact main _ trivial
  · refine ev_itL ?_
    walk_at "ev"
    exact ev_ref1 ha (main _ (.inl ha))
/-! the least edit between two texts -/
def cp : List Nat → List Nat → Nat
  | a :: l, b :: m => if a = b then cp l m + 1 else 0
  | _, _ => 0
theorem cp_le : ∀ l m : List Nat, cp l m ≤ l.length ∧ cp l m ≤ m.length
  | [], _ => by simp [cp]
  | _ :: _, [] => by simp [cp]
  | a :: l, b :: m => by
    have := cp_le l m
    unfold cp
    split <;> simp <;> omega
theorem cp_step : ∀ (l m : List Nat) (i : Nat), i ≤ cp l m → (i < cp l m ↔ ∃ c, l[i]? = some c ∧ m[i]? = some c)
  | [], _, i, _ => by simp [cp]
  | _ :: _, [], i, _ => by simp [cp]
  | a :: l, b :: m, 0, _ => by
    unfold cp
    split
    · next h => subst h; simp
    · next h => simp; intro e; exact h e.symm
  | a :: l, b :: m, i + 1, h => by
    unfold cp at h ⊢
    split
    · next e =>
      rw [if_pos e] at h
      have := cp_step l m i (by omega)
      simp only [List.getElem?_cons_succ]
      rw [← this]; omega
    · next e => rw [if_neg e] at h; omega
theorem cp_take : ∀ (l m : List Nat) (i : Nat), i ≤ l.length → i ≤ m.length → (l.take i = m.take i ↔ i ≤ cp l m)
  | _, _, 0, _, _ => by simp
  | [], _, i + 1, h, _ => by simp at h
  | _ :: _, [], i + 1, _, h => by simp at h
  | a :: l, b :: m, i + 1, h, h2 => by
    have := cp_take l m i (by simpa using h) (by simpa using h2)
    unfold cp
    rw [List.take_succ_cons, List.take_succ_cons, List.cons.injEq, this]
    split
    · next e => subst e; constructor <;> intro q <;> first | omega | exact ⟨rfl, by omega⟩
    · next e => constructor <;> intro q <;> first | omega | exact absurd q.1 e
/-- signs common at the ends, those at the beginnings left out -/
def cs (l m : List Nat) : Nat := min (cp l.reverse m.reverse) (min l.length m.length - cp l m)
def betwE (l m : List Nat) : ED := (cp l m, l.length - cs l m, (m.drop (cp l m)).take (m.length - cs l m - cp l m))
def sp_edit_between : DSp := fun ds S R => ∃ l m, ds = [.str (mk l), .str (mk m)] ∧ l.length ≤ 60000 ∧ m.length ≤ 60000 ∧ R (eD (betwE l m)) S
abbrev N_edit_between : List Str := ["text", "other", "begin", "many"]
abbrev ps_edit_between : List Str := ["text", "other"]
def t_edit_between : DTS := (dSeq (dSet 2 (dC (.int 0)))
  (dSeq (dWhile (dAndT (dB (dOp rLt (dVar 2) (dCB rLen (dCons (dVar 0) dNil)))) (dAndT (dB (dOp rLt (dVar 2) (dCB rLen (dCons (dVar 1) dNil)))) (dB (dOp (DL.rEq false) (dOp rItem (dVar 0) (dVar 2)) (dOp rItem (dVar 1) (dVar 2)))))) (dSet 2 (dOp DL.rAdd (dVar 2) (dC (.int 1)))))
  (dSeq (dSet 3 (dC (.int 0)))
  (dSeq (dWhile (dAndT (dB (dOp rLt (dVar 3) (dOp DL.rSub (dCB rLen (dCons (dVar 0) dNil)) (dVar 2)))) (dAndT (dB (dOp rLt (dVar 3) (dOp DL.rSub (dCB rLen (dCons (dVar 1) dNil)) (dVar 2)))) (dB (dOp (DL.rEq false) (dOp rItem (dVar 0) (dOp DL.rSub (dUn rNeg (dC (.int 1))) (dVar 3))) (dOp rItem (dVar 1) (dOp DL.rSub (dUn rNeg (dC (.int 1))) (dVar 3))))))) (dSet 3 (dOp DL.rAdd (dVar 3) (dC (.int 1)))))
  (dRet (dTup (dCons (dVar 2) (dCons (dOp DL.rSub (dCB rLen (dCons (dVar 0) dNil)) (dVar 3)) (dCons (dSlice (dVar 1) (dPart (dVar 2)) (dPart (dOp DL.rSub (dCB rLen (dCons (dVar 1) dNil)) (dVar 3)))) dNil)))))))))
theorem rev_get {l : List Nat} {i : Nat} (h : i < l.length) : atI l (-1 - (i : Int)) = l.reverse[i]? := by
  rw [atI_neg _ _ (by omega) (by omega), List.getElem?_reverse h]
  congr 1
  omega
theorem read_edit_between : ∀ ds S R, sp_edit_between ds S R → t_edit_between { nx := fun _ S' => R .non S', rt := R } (dstart N_edit_between ds) S := by
  rintro ds S R ⟨l, m, rfl, hl, hm, k⟩
  refine rd [some _, some _, none, none] rfl ?_
  unfold t_edit_between
  have cl := cp_le l m
  have cr := cp_le l.reverse m.reverse
  simp only [List.length_reverse] at cr
  walk_at "ev"
  refine ev_while (fun n τ S1 => ∃ i : Nat, τ = [some (.str (mk l)), some (.str (mk m)), some (.int (i : Nat)), none] ∧ S1 = S ∧ i ≤ cp l m ∧ n = l.length - i) (fun τ S1 => τ = [some (.str (mk l)), some (.str (mk m)), some (.int (cp l m : Nat)), none] ∧ S1 = S)
    ⟨_, 0, rfl, rfl, Nat.zero_le _, rfl⟩ ?_ ?_
  · rintro nx hO n τ S1 ⟨i, rfl, rfl, hi, rfl⟩
    have st := cp_step l m i hi
    walk_at "evs"
    · have h1 : (i : Int) < l.length := by assumption
      have h2 : (i : Int) < m.length := by assumption
      have g1 : l[i]? = some (l[i]'(by omega)) := List.getElem?_eq_getElem _
      have g2 : m[i]? = some (m[i]'(by omega)) := List.getElem?_eq_getElem _
      refine ev_it_str (L2.atI_nat g1) (by rw [sizeLine_eq]; omega) ?_
      walk_at "ev"
      refine ev_it_str (L2.atI_nat g2) (by rw [sizeLine_eq]; omega) ?_
      walk_at "ev"
      by_cases e : l[i]'(by omega) = m[i]'(by omega)
      · rw [e, decide_eq_true rfl]
        have lt : i < cp l m := st.mpr ⟨_, g1, by rw [g2, e]⟩
        refine br_t (ev_go fun N hN => ?_)
        walk_at "ev"
        exact hN (l.length - (i + 1)) _ _ (by omega) ⟨i + 1, rfl, rfl, lt, rfl⟩
      · rw [decide_eq_false (by simpa using e)]
        have nl : ¬ i < cp l m := fun h => by
          obtain ⟨c, c1, c2⟩ := st.mp h
          rw [g1] at c1
          rw [g2] at c2
          cases c1; exact e (Option.some.inj c2).symm
        refine br_f (hO _ _ ⟨?_, rfl⟩)
        rw [show cp l m = i by omega]
    · have h2 : ¬ (i : Int) < m.length := by assumption
      refine hO _ _ ⟨?_, rfl⟩
      rw [show cp l m = i by omega]
    · have h2 : ¬ (i : Int) < l.length := by assumption
      refine hO _ _ ⟨?_, rfl⟩
      rw [show cp l m = i by omega]
  · rintro τ S1 ⟨rfl, rfl⟩
    walk_at "ev"
    refine ev_while (fun n τ S2 => ∃ i : Nat, τ = [some (.str (mk l)), some (.str (mk m)), some (.int (cp l m : Nat)), some (.int (i : Nat))] ∧ S2 = S1 ∧ i ≤ cs l m ∧ n = l.length - i) (fun τ S2 => τ = [some (.str (mk l)), some (.str (mk m)), some (.int (cp l m : Nat)), some (.int (cs l m : Nat))] ∧ S2 = S1)
      ⟨_, 0, rfl, rfl, Nat.zero_le _, rfl⟩ ?_ ?_
    · rintro nx hO n τ S1 ⟨i, rfl, rfl, hi, rfl⟩
      have hcs : cs l m = min (cp l.reverse m.reverse) (min l.length m.length - cp l m) := rfl
      have st := cp_step l.reverse m.reverse i (by omega)
      walk_at "evs"
      · have h1 : (i : Int) < l.length - cp l m := by assumption
        have h2 : (i : Int) < m.length - cp l m := by assumption
        have g1 : l.reverse[i]? = some (l.reverse[i]'(by simp; omega)) := List.getElem?_eq_getElem _
        have g2 : m.reverse[i]? = some (m.reverse[i]'(by simp; omega)) := List.getElem?_eq_getElem _
        refine ev_it_str (by rw [rev_get (by omega)]; exact g1) (by rw [sizeLine_eq]; omega) ?_
        walk_at "ev"
        refine ev_it_str (by rw [rev_get (by omega)]; exact g2) (by rw [sizeLine_eq]; omega) ?_
        walk_at "ev"
        by_cases e : l.reverse[i]'(by simp; omega) = m.reverse[i]'(by simp; omega)
        · rw [e, decide_eq_true rfl]
          have lt : i < cp l.reverse m.reverse := st.mpr ⟨_, g1, by rw [g2, e]⟩
          refine br_t (ev_go fun N hN => ?_)
          walk_at "ev"
          exact hN (l.length - (i + 1)) _ _ (by omega) ⟨i + 1, rfl, rfl, by omega, rfl⟩
        · rw [decide_eq_false (by simpa using e)]
          have nl : ¬ i < cp l.reverse m.reverse := fun h => by
            obtain ⟨c, c1, c2⟩ := st.mp h
            rw [g1] at c1
            rw [g2] at c2
            cases c1; exact e (Option.some.inj c2).symm
          refine br_f (hO _ _ ⟨?_, rfl⟩)
          rw [show cs l m = i by omega]
      · have h2 : ¬ (i : Int) < m.length - cp l m := by assumption
        refine hO _ _ ⟨?_, rfl⟩
        rw [show cs l m = i by omega]
      · have h2 : ¬ (i : Int) < l.length - cp l m := by assumption
        refine hO _ _ ⟨?_, rfl⟩
        rw [show cs l m = i by omega]
    · rintro τ S1 ⟨rfl, rfl⟩
      have hcs : cs l m = min (cp l.reverse m.reverse) (min l.length m.length - cp l m) := rfl
      walk_at "ev"
      rw [show ((l.length : Int) - (cs l m : Nat)) = ((l.length - cs l m : Nat) : Int) by omega, show ((m.length : Int) - (cs l m : Nat)) = ((m.length - cs l m : Nat) : Int) by omega, cutN_nn']
      exact k

def sp__law_common : DSp := fun ds S R => ∃ (l m : List Nat) (n : Nat), ds = [.str (mk l), .str (mk m), .int (n : Nat)] ∧ l.length ≤ 60000 ∧ m.length ≤ 60000 ∧ n ≤ l.length ∧ n ≤ m.length ∧ R (.int (min (cp l m) n : Nat)) S
abbrev N__law_common : List Str := ["one", "other", "most", "low", "high", "turn", "middle"]
abbrev ps__law_common : List Str := ["one", "other", "most"]
def t__law_common : DTS := (dSeq (dPar 3 4 (dCons (dC (.int 0)) (dCons (dVar 2) dNil)))
  (dSeq (dFor (dRng1 (dCons (dC (.int 16)) dNil)) (dgName 5) (dSeq (dSet 6 (dOp DL.rDiv (dOp DL.rAdd (dOp DL.rAdd (dVar 3) (dVar 4)) (dC (.int 1))) (dC (.int 2))))
  (dIfS (dB (dOp (DL.rEq false) (dSlice (dVar 0) dNoPart (dPart (dVar 6))) (dSlice (dVar 1) dNoPart (dPart (dVar 6))))) (dSet 3 (dVar 6)) (dSet 4 (dOp DL.rSub (dVar 6) (dC (.int 1)))))))
  (dRet (dVar 3))))
theorem half_step {lo hi r : Nat} (h1 : lo ≤ r) (h2 : r ≤ hi) {p : Nat} (h : hi - lo < 2 ^ (p + 1)) : (((lo : Int) + hi + 1) / 2 : Int) = (((lo + hi + 1) / 2 : Nat) : Int) := by omega
theorem read__law_common : ∀ ds S R, sp__law_common ds S R → t__law_common { nx := fun _ S' => R .non S', rt := R } (dstart N__law_common ds) S := by
  rintro ds S R ⟨l, m, n, rfl, hl, hm, h1, h2, k⟩
  refine rd [some _, some _, some _, none, none, none, none] rfl ?_
  unfold t__law_common
  walk_at "ev"
  refine forB (fun i τ S1 => ∃ (lo hi : Nat) (x y : Option D), τ = [some (.str (mk l)), some (.str (mk m)), some (.int (n : Nat)), some (.int (lo : Nat)), some (.int (hi : Nat)), x, y] ∧ S1 = S ∧ lo ≤ min (cp l m) n ∧ min (cp l m) n ≤ hi ∧ hi ≤ n ∧ (hi - lo) * 2 ^ i < 65536) (fun τ S1 => ∃ (hi : Int) (x y : Option D), τ = [some (.str (mk l)), some (.str (mk m)), some (.int (n : Nat)), some (.int (min (cp l m) n : Nat)), some (.int hi), x, y] ∧ S1 = S)
    ⟨0, n, none, none, rfl, rfl, Nat.zero_le _, Nat.min_le_right _ _, Nat.le_refl _, by omega⟩ (fun _ _ _ _ _ => trivial) ?_ ?_ ?_
  · rintro nx N hO i d τ S1 hd hi ⟨lo, hi, x, y, rfl, rfl, g1, g2, g3, g4⟩ hN
    walk_at "ev"
    have e : ((lo : Int) + (hi : Int) + 1) / 2 = (((lo + hi + 1) / 2 : Nat) : Int) := by omega
    rw [e, cutN_no, cutN_no]
    have hmid : (lo + hi + 1) / 2 ≤ n := by omega
    have ct := cp_take l m ((lo + hi + 1) / 2) (by omega) (by omega)
    have pw : 2 ^ (i + 1) = 2 * 2 ^ i := by rw [Nat.pow_succ]; omega
    have pp : 0 < 2 ^ i := Nat.two_pow_pos i
    have dbl : ∀ a : Nat, 2 * a ≤ hi - lo → a * 2 ^ (i + 1) < 65536 := fun a ha => by
      rw [pw]
      have : a * (2 * 2 ^ i) = (2 * a) * 2 ^ i := by rw [Nat.mul_comm 2 a, Nat.mul_assoc]
      rw [this]
      exact Nat.lt_of_le_of_lt (Nat.mul_le_mul_right _ ha) g4
    by_cases hc : (lo + hi + 1) / 2 ≤ cp l m
    · rw [ct.mpr hc, decide_eq_true rfl]
      refine br_t ?_
      walk_at "ev"
      exact hN _ _ ⟨(lo + hi + 1) / 2, hi, _, _, rfl, rfl, by omega, g2, g3, dbl _ (by omega)⟩
    · rw [decide_eq_false (fun h => hc (ct.mp h))]
      refine br_f ?_
      walk_at "ev"
      rw [show (((lo + hi + 1) / 2 : Nat) : Int) - 1 = (((lo + hi + 1) / 2 - 1 : Nat) : Int) by omega]
      exact hN _ _ ⟨lo, (lo + hi + 1) / 2 - 1, _, _, rfl, rfl, g1, by omega, by omega, dbl _ (by omega)⟩
  · rintro τ S1 ⟨lo, hi, x, y, rfl, rfl, g1, g2, g3, g4⟩
    rw [upTo_len] at g4
    have : hi - lo = 0 := by
      have e : (2 : Nat) ^ (16 : Int).toNat = 65536 := by decide
      rw [e] at g4
      omega
    have e : lo = min (cp l m) n := by omega
    subst e
    exact ⟨_, _, _, rfl, rfl⟩
  · rintro τ S1 ⟨hi, x, y, rfl, rfl⟩
    walk_at "ev"
    exact k
abbrev sp__law_between : DSp := sp_edit_between
abbrev N__law_between : List Str := ["text", "other", "most", "begin", "behind"]
abbrev ps__law_between : List Str := ["text", "other"]
def t__law_between : DTS := (dSeq (dSet 2 (dCB rMin (dCons (dCB rLen (dCons (dVar 0) dNil)) (dCons (dCB rLen (dCons (dVar 1) dNil)) dNil))))
  (dSeq (dSet 3 (dCall sp__law_common (dCons (dVar 0) (dCons (dVar 1) (dCons (dVar 2) dNil)))))
  (dSeq (dSet 4 (dCall sp__law_common (dCons (dUn rBack (dVar 0)) (dCons (dUn rBack (dVar 1)) (dCons (dOp DL.rSub (dVar 2) (dVar 3)) dNil)))))
  (dRet (dTup (dCons (dVar 3) (dCons (dOp DL.rSub (dCB rLen (dCons (dVar 0) dNil)) (dVar 4)) (dCons (dSlice (dVar 1) (dPart (dVar 3)) (dPart (dOp DL.rSub (dCB rLen (dCons (dVar 1) dNil)) (dVar 4)))) dNil))))))))
theorem min_nat (a b : Nat) : (if (b : Int) < (a : Int) then (b : Int) else (a : Int)) = ((min a b : Nat) : Int) := by
  split <;> omega
theorem read__law_between : ∀ ds S R, sp__law_between ds S R → t__law_between { nx := fun _ S' => R .non S', rt := R } (dstart N__law_between ds) S := by
  rintro ds S R ⟨l, m, rfl, hl, hm, k⟩
  refine rd [some _, some _, none, none, none] rfl ?_
  unfold t__law_between
  have cl := cp_le l m
  have cr := cp_le l.reverse m.reverse
  simp only [List.length_reverse] at cr
  walk_at "ev"
  rw [min_nat]
  refine ⟨l, m, min l.length m.length, rfl, hl, hm, by omega, by omega, ?_⟩
  walk_at "ev"
  have e1 : min (cp l m) (min l.length m.length) = cp l m := by omega
  rw [e1]
  refine ⟨l.reverse, m.reverse, min l.length m.length - cp l m, ?_, by simpa using hl, by simpa using hm, by simp; omega, by simp; omega, ?_⟩
  · rw [show ((min l.length m.length : Nat) : Int) - (cp l m : Nat) = ((min l.length m.length - cp l m : Nat) : Int) by omega]
  have hcs : min (cp l.reverse m.reverse) (min l.length m.length - cp l m) = cs l m := rfl
  rw [hcs]
  walk_at "ev"
  rw [show ((l.length : Int) - (cs l m : Nat)) = ((l.length - cs l m : Nat) : Int) by omega, show ((m.length : Int) - (cs l m : Nat)) = ((m.length - cs l m : Nat) : Int) by omega, cutN_nn']
  exact k
/-- no edit takes or puts less -/
def sp__law_is_least : DSp := fun ds S R => ∃ (l m : List Nat), ds = [.str (mk l), .str (mk m), eD (betwE l m)] ∧ l.length ≤ 1000 ∧ m.length ≤ 1000 ∧ R (.bl true) S
abbrev N__law_is_least : List Str := ["text", "other", "edit", "taken", "put", "begin", "end", "many"]
abbrev ps__law_is_least : List Str := ["text", "other", "edit"]
def t__law_is_least : DTS := (dSeq (dPar 3 4 (dCons (dOp DL.rSub (dOp rItem (dVar 2) (dC (.int 1))) (dOp rItem (dVar 2) (dC (.int 0)))) (dCons (dCB rLen (dCons (dOp rItem (dVar 2) (dC (.int 2))) dNil)) dNil)))
  (dSeq (dFor (dRng1 (dCons (dOp DL.rAdd (dCB rLen (dCons (dVar 0) dNil)) (dC (.int 1))) dNil)) (dgName 5) (dSeq (dIfS (dB (dOp (DL.rEq true) (dSlice (dVar 0) dNoPart (dPart (dVar 5))) (dSlice (dVar 1) dNoPart (dPart (dVar 5))))) dBreak dNext)
  (dFor (dRng2 (dCons (dVar 5) (dCons (dOp DL.rAdd (dCB rLen (dCons (dVar 0) dNil)) (dC (.int 1))) dNil))) (dgName 6) (dSeq (dSet 7 (dOp DL.rSub (dOp DL.rSub (dCB rLen (dCons (dVar 1) dNil)) (dVar 5)) (dOp DL.rSub (dCB rLen (dCons (dVar 0) dNil)) (dVar 6))))
  (dIfS (dAndT (dB (dOp rGe (dVar 7) (dC (.int 0)))) (dAndT (dB (dOp (DL.rEq false) (dSlice (dVar 1) (dPart (dOp DL.rAdd (dVar 5) (dVar 7))) dNoPart) (dSlice (dVar 0) (dPart (dVar 6)) dNoPart))) (dOrT (dB (dOp rLt (dOp DL.rSub (dVar 6) (dVar 5)) (dVar 3))) (dB (dOp rLt (dVar 7) (dVar 4)))))) (dRet (dC (.bl false))) dNext)))))
  (dRet (dC (.bl true)))))
theorem drop_suf {l m : List Nat} {a b : Nat} (ha : a ≤ l.length) (hb : b ≤ m.length) (h : m.drop b = l.drop a) : l.length - a ≤ cp l.reverse m.reverse := by
  have hl := congrArg List.length h
  simp only [List.length_drop] at hl
  rw [← cp_take _ _ _ (by simp) (by simp; omega)]
  have e1 : l.reverse.take (l.length - a) = (l.drop a).reverse := by
    rw [List.reverse_drop]
  have e2 : m.reverse.take (l.length - a) = (m.drop b).reverse := by
    rw [← hl, List.reverse_drop]
  rw [e1, e2, h]
theorem read__law_is_least : ∀ ds S R, sp__law_is_least ds S R → t__law_is_least { nx := fun _ S' => R .non S', rt := R } (dstart N__law_is_least ds) S := by
  rintro ds S R ⟨l, m, rfl, hl, hm, k⟩
  refine rd [some _, some _, some _, none, none, none, none, none] rfl ?_
  unfold t__law_is_least
  have cl := cp_le l m
  have cr := cp_le l.reverse m.reverse
  simp only [List.length_reverse] at cr
  have hcs : min (cp l.reverse m.reverse) (min l.length m.length - cp l m) = cs l m := rfl
  have e1 : (betwE l m).1 = cp l m := rfl
  have e2 : (betwE l m).2.1 = l.length - cs l m := rfl
  have e3 : (betwE l m).2.2.length = m.length - cs l m - cp l m := by
    show (List.take _ _).length = _
    rw [List.length_take, List.length_drop]; omega
  generalize betwE l m = ed at *
  obtain ⟨b0, f0, p0⟩ := ed
  simp only at e1 e2 e3
  unfold eD
  walk_at "ev"
  refine forB (fun i τ S1 => ∃ x y z, τ = [some (.str (mk l)), some (.str (mk m)), some (.tup [.int (b0 : Nat), .int (f0 : Nat), .str (mk p0)]), some (.int ((f0 : Nat) - (b0 : Nat) : Int)), some (.int (p0.length : Nat)), x, y, z] ∧ S1 = S) (fun τ S1 => S1 = S)
    ⟨_, _, _, rfl, rfl⟩ (fun _ _ _ _ _ => trivial) ?_ (fun _ _ ⟨_, _, _, _, h⟩ => h) ?_
  · rintro nx N hO i d τ S1 hd hi ⟨x, y, z, rfl, rfl⟩ hN
    obtain ⟨rfl, hi2⟩ := at_upTo hd
    rw [show (0 : Int) + (i : Int) = ((i : Nat) : Int) by omega]
    walk_at "ev"
    rw [cutN_no, cutN_no]
    by_cases h : l.take i = m.take i
    · rw [h, decide_eq_true rfl]
      have hb : i ≤ cp l m := by
        have hlen := congrArg List.length h
        simp only [List.length_take] at hlen
        exact (cp_take l m i (by omega) (by omega)).mp h
      refine br_f ?_
      walk_at "ev"
      refine forB (fun j τ S2 => ∃ y z, τ = [some (.str (mk l)), some (.str (mk m)), some (.tup [.int (b0 : Nat), .int (f0 : Nat), .str (mk p0)]), some (.int ((f0 : Nat) - (b0 : Nat) : Int)), some (.int (p0.length : Nat)), some (.int (i : Nat)), y, z] ∧ S2 = S1) _ ⟨_, _, rfl, rfl⟩ (fun _ _ _ _ _ => trivial) ?_ (fun _ _ h => h) ?_
      · rintro nx N' hO' j d τ S2 hd hj ⟨y, z, rfl, rfl⟩ hN'
        obtain ⟨rfl, hj2⟩ := at_upTo hd
        rw [show (i : Int) + (j : Int) = ((i + j : Nat) : Int) by omega]
        walk_at "evs"
        · have q : (0 : Int) ≤ (m.length : Int) - i - (l.length - ((i + j : Nat) : Int)) := by assumption
          have q2 : cutN m (some ((i : Int) + ((m.length : Int) - i - (l.length - ((i + j : Nat) : Int))))) none = cutN l (some ((i + j : Nat) : Int)) none := by assumption
          exfalso
          rw [show (i : Int) + ((m.length : Int) - i - (l.length - ((i + j : Nat) : Int))) = ((m.length - (l.length - (i + j)) : Nat) : Int) by omega, cutN_on, cutN_on] at q2
          have := drop_suf (by omega) (by omega) q2
          omega
        · have q : (0 : Int) ≤ (m.length : Int) - i - (l.length - ((i + j : Nat) : Int)) := by assumption
          have q2 : cutN m (some ((i : Int) + ((m.length : Int) - i - (l.length - ((i + j : Nat) : Int))))) none = cutN l (some ((i + j : Nat) : Int)) none := by assumption
          exfalso
          rw [show (i : Int) + ((m.length : Int) - i - (l.length - ((i + j : Nat) : Int))) = ((m.length - (l.length - (i + j)) : Nat) : Int) by omega, cutN_on, cutN_on] at q2
          have := drop_suf (by omega) (by omega) q2
          omega
        all_goals exact hN' _ _ ⟨_, _, rfl, rfl⟩
      · rintro τ S2 ⟨y, z, rfl, rfl⟩
        exact hN _ _ ⟨_, _, _, rfl, rfl⟩
    · rw [decide_eq_false h]
      refine br_t ?_
      walk_at "ev"
      exact hO _ _ rfl
  · rintro τ S1 rfl
    walk_at "ev"
    exact k

def sp__law_signs : DSp := fun ds S R => ∃ (b c : Addr) (n : Nat), ds = [.ref b, .int (n : Nat)] ∧ Bag b c S ∧ n ≤ 40 ∧ ∀ l S', l.length = n → Ok l → Bag b c S' → Up (bc b c) S S' → R (.str (mk l)) S'
abbrev N__law_signs : List Str := ["bag", "many", "signs", "part", "turn"]
abbrev ps__law_signs : List Str := ["bag", "many"]
def t__law_signs : DTS := (dSeq (dSet 2 (dCall sp__law_pick (dCons (dVar 0) (dCons (dLst (dCons (dC (.str "ab")) (dCons (dC (.str "a\n")) (dCons (dC (.str "ab\n")) (dCons (dC (.str "~ ")) (dCons (dC (.str "x0-")) (dCons (dC (.str "aaab")) dNil))))))) dNil))))
  (dSeq (dIfS (dB (dOp (DL.rEq false) (dCall sp__law_draw (dCons (dVar 0) (dCons (dC (.int 3)) dNil))) (dC (.int 0)))) (dSeq (dSet 3 (dM1 rJoinD (dC (.str "")) (dLc (dRng1 (dCons (dOp DL.rAdd (dC (.int 1)) (dCall sp__law_draw (dCons (dVar 0) (dCons (dC (.int 3)) dNil)))) dNil)) (dgName 4) dYes (dCall sp__law_pick (dCons (dVar 0) (dCons (dVar 2) dNil))) [4])))
  (dRet (dSlice (dOp DL.rMul (dVar 3) (dC (.int 40))) dNoPart (dPart (dVar 1))))) dNext)
  (dRet (dM1 rJoinD (dC (.str "")) (dLc (dRng1 (dCons (dVar 1) dNil)) (dgName 4) dYes (dCall sp__law_pick (dCons (dVar 0) (dCons (dVar 2) dNil))) [4])))))
theorem flat1 (l : List Nat) : (l.map fun c => [c]).flatten = l := by
  induction l with
  | nil => rfl
  | cons a l ih => rw [List.map_cons, List.flatten_cons, ih]; rfl
theorem sum1 (l : List Nat) : ((l.map fun c => [c]).map List.length).sum = l.length := by
  induction l with
  | nil => rfl
  | cons a l ih => rw [List.map_cons, List.map_cons, List.sum_cons, ih, List.length_cons]; simp; omega
theorem signs_lc {b c : Addr} {l : List Nat} {S : DS} {τ : DSt} {R : DK} {n : Nat} (B : Bag b c S) (hl : l ≠ [] ∧ l.length < 1000000) (ok : Ok l) (hn : n ≤ 40) (h0 : (dwipe τ [4])[0]? = some (some (.ref b))) (h2 : (dwipe τ [4])[2]? = some (some (.str (mk l)))) (h4 : ∀ d, ((dwipe τ [4]).set 4 d)[0]? = some (some (.ref b)) ∧ ((dwipe τ [4]).set 4 d)[2]? = some (some (.str (mk l))))
    (k : ∀ p (cs : List Nat) S', cs.length = n → Ok cs → Bag b c S' → Up (bc b c) S S' → S' p = some (.lst (cs.map fun x => .str (mk [x]))) → R (.ref p) S') (lo : Int) :
    dLcB (dgName 4) dYes (dCall sp__law_pick (dCons (dVar 0) (dCons (dVar 2) dNil))) [4] τ R (DL.upTo lo n) (fun _ => True) S := by
  refine lcB (S0 := S) (fun p i acc S' => Fresh S p ∧ S' p = some (.lst acc) ∧ Bag b c S' ∧ Up (bc b c) S S' ∧ ∃ cs : List Nat, acc = cs.map (fun x => .str (mk [x])) ∧ cs.length = i ∧ Ok cs)
    (fun p hp => ⟨hp, set_same, B.set hp, Up.set hp, [], rfl, rfl, Ok.nil⟩) (fun _ _ _ _ _ _ => trivial) (fun p i acc S' h => h.2.1) ?_ ?_ rfl
  · rintro p i d acc S' N hd hi ⟨hf, hp, B', u, cs, rfl, rfl, hcs⟩ _ hN
    rw [upTo_len] at hi
    refine ev_gname (yes_tt (br_t (ev_call (ev_cons (ev_var (h4 _).1 (ev_cons (ev_var (h4 _).2 (ev_nil (do_pickS B' (fun x hx S1 B1 u1 => ?_) hl))))))))) 
    refine ⟨_, u1 _ _ (B.off hf) hp rfl, by rw [List.length_map, sizeLine_eq]; omega, hN _ _ ⟨hf, set_same, ?_, (u.trans u1).setIn hf, cs ++ [x], by simp, by simp, hcs.app (fun y hy => ok y (by simpa using List.mem_singleton.mp hy ▸ hx))⟩⟩
    obtain ⟨ne, ns, d0, m0, g1, g2, g3⟩ := B1
    obtain ⟨o1, o2⟩ := not_or.mp (B.off hf)
    exact ⟨ne, ns, d0, m0, by rw [set_ne (Ne.symm o1)]; exact g1, by rw [set_ne (Ne.symm o2)]; exact g2, g3⟩
  · rintro p acc S' hf ⟨_, hp, B', u, cs, rfl, hl2, hcs⟩
    rw [upTo_len] at hl2
    exact k p cs S' hl2 hcs B' u hp
theorem read__law_signs : ∀ ds S R, sp__law_signs ds S R → t__law_signs { nx := fun _ S' => R .non S', rt := R } (dstart N__law_signs ds) S := by
  rintro ds S R ⟨b, c, n, rfl, B, hn, k⟩
  refine rd [some _, some _, none, none, none] rfl ?_
  unfold t__law_signs
  walk_at "lits"
  walk_at "ev"
  intro p hp
  walk_at "ev"
  refine do_pickN B hp (fun d hd S1 B1 u1 => ?_) ⟨by simp, by simp⟩
  obtain ⟨l, rfl, hl, hok⟩ : ∃ l, d = .str (mk l) ∧ (l ≠ [] ∧ l.length < 1000000) ∧ Ok l := by
    simp only [List.mem_cons, List.mem_nil_iff, or_false] at hd
    rcases hd with rfl | rfl | rfl | rfl | rfl | rfl <;> exact ⟨_, rfl, by decide, by walk_at "ok"⟩
  walk_at "ev"
  refine do_draw B1 (fun j S2 hj B2 u2 => ?_) (by decide)
  walk_at "ev"
  refine br (fun _ => ?_) fun _ => ?_
  · walk_at "ev"
    refine ⟨⟨_, rfl⟩, ?_⟩
    walk_at "ev"
    refine do_draw B2 (fun j S3 hj B3 u3 => ?_) (by decide)
    walk_at "ev"
    have e : ((1 : Int) + (j : Nat)).toNat = 1 + j := by omega
    rw [e]
    refine signs_lc B3 hl hok (by omega) rfl rfl (fun _ => ⟨rfl, rfl⟩) (fun p cs S4 hcs hok2 B4 u4 hp => ?_) 0
    have hp2 : S4 p = some (.lst ((cs.map fun x => [x]).map fun l => .str (mk l))) := by rw [hp, List.map_map]; rfl
    refine ev_join0 hp2 ?_ ?_
    · rw [flat1]
      walk_at "ev"
      refine ev_mul_si ?_ ⟨by omega, by rw [show (40 : Int).toNat = 40 from rfl]; omega, by omega⟩
      have e2 : (List.replicate (40 : Int).toNat cs).flatten.length = 40 * cs.length := rep_len
      have hm := Nat.mul_le_mul_left 40 (show 1 ≤ cs.length by omega)
      walk_at "ev"
      rw [cutN_no]
      refine k _ _ (by rw [List.length_take]; omega) hok2.rep.take B4 (by walk_at "ups")
    · rw [sum1]
      omega
  · walk_at "ev"
    refine ⟨⟨_, rfl⟩, ?_⟩
    walk_at "ev"
    rw [Int.toNat_natCast]
    refine signs_lc B2 hl hok (by omega) rfl rfl (fun _ => ⟨rfl, rfl⟩) (fun p cs S4 hcs hok2 B4 u4 hp => ?_) 0
    have hp2 : S4 p = some (.lst ((cs.map fun x => [x]).map fun l => .str (mk l))) := by rw [hp, List.map_map]; rfl
    refine ev_join0 hp2 ?_ ?_
    · rw [flat1]
      exact k _ _ hcs hok2 B4 (by walk_at "ups")
    · rw [sum1]
      omega

def sp__law_text : DSp := fun ds S R => ∃ (b c : Addr), ds = [.ref b] ∧ Bag b c S ∧ ∀ l S', l.length ≤ 40 → Ok l → Bag b c S' → Up (bc b c) S S' → R (.str (mk l)) S'
abbrev N__law_text : List Str := ["bag"]
abbrev ps__law_text : List Str := ["bag"]
def t__law_text : DTS := (dRet (dCall sp__law_signs (dCons (dVar 0) (dCons (dCall sp__law_pick (dCons (dVar 0) (dCons (dLst (dCons (dC (.int 0)) (dCons (dC (.int 1)) (dCons (dC (.int 2)) (dCons (dC (.int 40)) (dCons (dOp DL.rAdd (dC (.int 3)) (dCall sp__law_draw (dCons (dVar 0) (dCons (dC (.int 12)) dNil)))) (dCons (dCall sp__law_draw (dCons (dVar 0) (dCons (dC (.int 41)) dNil))) dNil))))))) dNil))) dNil))))
theorem read__law_text : ∀ ds S R, sp__law_text ds S R → t__law_text { nx := fun _ S' => R .non S', rt := R } (dstart N__law_text ds) S := by
  rintro ds S R ⟨b, c, rfl, B, k⟩
  refine rd [some _] rfl ?_
  unfold t__law_text
  walk_at "ev"
  refine do_draw B (fun j S1 hj B1 u1 => ?_) (by decide)
  walk_at "ev"
  refine do_draw B1 (fun i S2 hi B2 u2 => ?_) (by decide)
  walk_at "ev"
  intro p hp
  walk_at "ev"
  refine do_pickN B2 hp (fun d hd S3 B3 u3 => ?_) ⟨by simp, by simp⟩
  obtain ⟨n, rfl, hn⟩ : ∃ n : Nat, d = .int (n : Nat) ∧ n ≤ 40 := by
    simp only [List.mem_cons, List.mem_nil_iff, or_false] at hd
    rcases hd with rfl | rfl | rfl | rfl | rfl | rfl
    · exact ⟨0, rfl, by omega⟩
    · exact ⟨1, rfl, by omega⟩
    · exact ⟨2, rfl, by omega⟩
    · exact ⟨40, rfl, by omega⟩
    · exact ⟨3 + j, rfl, by omega⟩
    · exact ⟨i, rfl, by omega⟩
  walk_at "ev"
  exact ⟨b, c, n, rfl, B3, hn, fun l S' h1 h2 B' u => k l S' (by omega) h2 B' (by walk_at "ups")⟩
def sp__law_put : DSp := fun ds S R => ∃ (b c : Addr) (l : List Nat), ds = [.ref b, .str (mk l)] ∧ Bag b c S ∧ l.length ≤ 50000 ∧ Ok l ∧ ∀ p S', p.length ≤ 5 → Ok p → Bag b c S' → Up (bc b c) S S' → R (.str (mk p)) S'
abbrev N__law_put : List Str := ["bag", "text", "at"]
abbrev ps__law_put : List Str := ["bag", "text"]
def t__law_put : DTS := (dSeq (dSet 2 (dCall sp__law_draw (dCons (dVar 0) (dCons (dOp DL.rAdd (dCB rLen (dCons (dVar 1) dNil)) (dC (.int 1))) dNil))))
  (dRet (dCall sp__law_pick (dCons (dVar 0) (dCons (dLst (dCons (dC (.str "")) (dCons (dC (.str "")) (dCons (dSlice (dVar 1) (dPart (dVar 2)) (dPart (dOp DL.rAdd (dVar 2) (dC (.int 3))))) (dCons (dC (.str "a")) (dCons (dC (.str "\n")) (dCons (dC (.str "ab")) (dCons (dCall sp__law_signs (dCons (dVar 0) (dCons (dCall sp__law_draw (dCons (dVar 0) (dCons (dC (.int 6)) dNil))) dNil))) dNil)))))))) dNil)))))
theorem read__law_put : ∀ ds S R, sp__law_put ds S R → t__law_put { nx := fun _ S' => R .non S', rt := R } (dstart N__law_put ds) S := by
  rintro ds S R ⟨b, c, l, rfl, B, hl, ok, k⟩
  refine rd [some _, some _, none] rfl ?_
  unfold t__law_put
  walk_at "lits"
  walk_at "ev"
  refine do_draw B (fun j S1 hj B1 u1 => ?_) ⟨by omega, by omega⟩
  walk_at "ev"
  refine do_draw B1 (fun i S2 hi B2 u2 => ?_) (by decide)
  walk_at "ev"
  refine ⟨b, c, i, rfl, B2, by omega, fun q S3 hq okq B3 u3 => ?_⟩
  walk_at "ev"
  intro p hp
  walk_at "ev"
  refine do_pickN B3 hp (fun d hd S4 B4 u4 => ?_) ⟨by simp, by simp⟩
  obtain ⟨n, rfl, hn, okn⟩ : ∃ n, d = .str (mk n) ∧ n.length ≤ 5 ∧ Ok n := by
    simp only [List.mem_cons, List.mem_nil_iff, or_false] at hd
    rcases hd with rfl | rfl | rfl | rfl | rfl | rfl | rfl
    · exact ⟨_, rfl, by decide, by walk_at "ok"⟩
    · exact ⟨_, rfl, by decide, by walk_at "ok"⟩
    · refine ⟨_, rfl, ?_, ok.cut⟩
      rw [show (j : Int) + 3 = ((j + 3 : Nat) : Int) by omega, cutN_nn', List.length_take]
      omega
    · exact ⟨_, rfl, by decide, by walk_at "ok"⟩
    · exact ⟨_, rfl, by decide, by walk_at "ok"⟩
    · exact ⟨_, rfl, by decide, by walk_at "ok"⟩
    · exact ⟨_, rfl, by omega, okq⟩
  exact k _ _ hn okn B4 (by walk_at "ups")
def sp__law_edit : DSp := fun ds S R => ∃ (b c : Addr) (l : List Nat), ds = [.ref b, .str (mk l)] ∧ Bag b c S ∧ l.length ≤ 50000 ∧ Ok l ∧ ∀ e S', EdOk l e → e.2.2.length ≤ 5 → Ok e.2.2 → Bag b c S' → Up (bc b c) S S' → R (eD e) S'
abbrev N__law_edit : List Str := ["bag", "text", "many", "put", "begin", "end", "near", "some"]
abbrev ps__law_edit : List Str := ["bag", "text"]
def t__law_edit : DTS := (dSeq (dPar 2 3 (dCons (dCB rLen (dCons (dVar 1) dNil)) (dCons (dCall sp__law_put (dCons (dVar 0) (dCons (dVar 1) dNil))) dNil)))
  (dSeq (dSet 4 (dCall sp__law_draw (dCons (dVar 0) (dCons (dOp DL.rAdd (dVar 2) (dC (.int 1))) dNil))))
  (dSeq (dSet 5 (dOp DL.rAdd (dVar 4) (dCall sp__law_draw (dCons (dVar 0) (dCons (dOp DL.rAdd (dOp DL.rSub (dVar 2) (dVar 4)) (dC (.int 1))) dNil)))))
  (dSeq (dSet 6 (dOp DL.rAdd (dVar 4) (dCall sp__law_draw (dCons (dVar 0) (dCons (dOp DL.rAdd (dCB rMin (dCons (dOp DL.rSub (dVar 2) (dVar 4)) (dCons (dC (.int 3)) dNil))) (dC (.int 1))) dNil)))))
  (dSeq (dSet 7 (dLst (dCons (dTup (dCons (dC (.int 0)) (dCons (dC (.int 0)) (dCons (dVar 3) dNil)))) (dCons (dTup (dCons (dVar 2) (dCons (dVar 2) (dCons (dC (.str "")) dNil)))) (dCons (dTup (dCons (dVar 2) (dCons (dVar 2) (dCons (dVar 3) dNil)))) (dCons (dTup (dCons (dC (.int 0)) (dCons (dVar 2) (dCons (dC (.str "")) dNil)))) (dCons (dTup (dCons (dC (.int 0)) (dCons (dVar 2) (dCons (dVar 3) dNil)))) (dCons (dTup (dCons (dVar 4) (dCons (dVar 5) (dCons (dC (.str "")) dNil)))) (dCons (dTup (dCons (dVar 4) (dCons (dVar 4) (dCons (dVar 3) dNil)))) (dCons (dTup (dCons (dVar 4) (dCons (dVar 5) (dCons (dVar 3) dNil)))) (dCons (dTup (dCons (dVar 4) (dCons (dVar 6) (dCons (dVar 3) dNil)))) (dCons (dTup (dCons (dC (.int 0)) (dCons (dVar 5) (dCons (dVar 3) dNil)))) (dCons (dTup (dCons (dVar 4) (dCons (dVar 2) (dCons (dVar 3) dNil)))) dNil)))))))))))))
  (dRet (dCall sp__law_pick (dCons (dVar 0) (dCons (dVar 7) dNil)))))))))
theorem read__law_edit : ∀ ds S R, sp__law_edit ds S R → t__law_edit { nx := fun _ S' => R .non S', rt := R } (dstart N__law_edit ds) S := by
  rintro ds S R ⟨b, c, l, rfl, B, hl, ok, k⟩
  refine rd [some _, some _, none, none, none, none, none, none] rfl ?_
  unfold t__law_edit
  walk_at "lits"
  walk_at "ev"
  refine ⟨b, c, l, rfl, B, hl, ok, fun p S1 hp okp B1 u1 => ?_⟩
  walk_at "ev"
  refine do_draw B1 (fun i S2 hi B2 u2 => ?_) ⟨by omega, by omega⟩
  walk_at "ev"
  refine do_draw B2 (fun j S3 hj B3 u3 => ?_) ⟨by omega, by omega⟩
  walk_at "ev"
  refine do_draw B3 (fun n S4 hn B4 u4 => ?_) ⟨by split <;> omega, by split <;> omega⟩
  walk_at "ev"
  intro a ha
  walk_at "ev"
  refine do_pickN B4 ha (fun d hd S5 B5 u5 => ?_) ⟨by simp, by simp⟩
  obtain ⟨e, rfl, he, h5, ok5⟩ : ∃ e, d = eD e ∧ EdOk l e ∧ e.2.2.length ≤ 5 ∧ Ok e.2.2 := by
    have hn2 : i + n ≤ l.length := by split at hn <;> omega
    simp only [List.mem_cons, List.mem_nil_iff, or_false] at hd
    rcases hd with rfl | rfl | rfl | rfl | rfl | rfl | rfl | rfl | rfl | rfl | rfl
    · exact ⟨(0, 0, p), rfl, ⟨by dsimp only; omega, by dsimp only; omega⟩, hp, okp⟩
    · exact ⟨(l.length, l.length, []), rfl, ⟨by dsimp only; omega, by dsimp only; omega⟩, by simp, Ok.nil⟩
    · exact ⟨(l.length, l.length, p), rfl, ⟨by dsimp only; omega, by dsimp only; omega⟩, hp, okp⟩
    · exact ⟨(0, l.length, []), rfl, ⟨by dsimp only; omega, by dsimp only; omega⟩, by simp, Ok.nil⟩
    · exact ⟨(0, l.length, p), rfl, ⟨by dsimp only; omega, by dsimp only; omega⟩, hp, okp⟩
    · exact ⟨(i, i + j, []), rfl, ⟨by dsimp only; omega, by dsimp only; omega⟩, by simp, Ok.nil⟩
    · exact ⟨(i, i, p), rfl, ⟨by dsimp only; omega, by dsimp only; omega⟩, hp, okp⟩
    · exact ⟨(i, i + j, p), rfl, ⟨by dsimp only; omega, by dsimp only; omega⟩, hp, okp⟩
    · exact ⟨(i, i + n, p), rfl, ⟨by dsimp only; omega, by dsimp only; omega⟩, hp, okp⟩
    · exact ⟨(0, i + j, p), rfl, ⟨by dsimp only; omega, by dsimp only; omega⟩, hp, okp⟩
    · exact ⟨(i, l.length, p), rfl, ⟨by dsimp only; omega, by dsimp only; omega⟩, hp, okp⟩
  exact k e _ he h5 ok5 B5 (by walk_at "ups")

def SrtS (l : List Nat) : Nat → List ED → Prop
  | _, [] => True
  | a, e :: r => a ≤ e.1 ∧ e.1 ≤ e.2.1 ∧ e.2.1 ≤ l.length ∧ SrtS l (e.2.1 + 1) r
theorem SrtS.low {l : List Nat} {a b : Nat} (h : b ≤ a) : ∀ {es : List ED}, SrtS l a es → SrtS l b es
  | [], _ => trivial
  | _ :: _, q => ⟨by have := q.1; omega, q.2⟩
theorem SrtS.srt {l : List Nat} : ∀ {es : List ED} {a : Nat}, SrtS l a es → Srt l a es
  | [], _, _ => trivial
  | _ :: _, _, ⟨h1, h2, h3, h4⟩ => ⟨h1, h2, h3, (SrtS.srt h4).low (by omega)⟩
theorem SrtS.ok {l : List Nat} : ∀ {es : List ED} {a : Nat}, SrtS l a es → ∀ e ∈ es, EdOk l e
  | [], _, _, e, h => by cases h
  | _ :: _, _, ⟨h1, h2, h3, h4⟩, e, h => by
    rcases List.mem_cons.mp h with rfl | h
    · exact ⟨h2, h3⟩
    · exact SrtS.ok h4 e h
def AllS (l : List Nat) (es : List ED) (a : Nat) : Prop := ∀ r, SrtS l a r → SrtS l 0 (es ++ r)
def sp__law_edits : DSp := fun ds S R => ∃ (b c : Addr) (l : List Nat), ds = [.ref b, .str (mk l)] ∧ Bag b c S ∧ l.length ≤ 50000 ∧ Ok l ∧ ∀ es S', SrtS l 0 es → es.length ≤ 6 → (∀ e ∈ es, e.2.2.length ≤ 5 ∧ Ok e.2.2) → Bag b c S' → Up (bc b c) S S' → R (.tup (es.map eD)) S'
abbrev N__law_edits : List Str := ["bag", "text", "found", "at", "wide", "turn", "begin", "end"]
abbrev ps__law_edits : List Str := ["bag", "text"]
def t__law_edits : DTS := (dSeq (dPar3 2 3 4 (dCons (dLst dNil) (dCons (dCall sp__law_draw (dCons (dVar 0) (dCons (dOp DL.rAdd (dCB rMin (dCons (dCB rLen (dCons (dVar 1) dNil)) (dCons (dC (.int 3)) dNil))) (dC (.int 1))) dNil))) (dCons (dCall sp__law_pick (dCons (dVar 0) (dCons (dLst (dCons (dC (.int 0)) (dCons (dC (.int 2)) (dCons (dC (.int 9)) dNil)))) dNil))) dNil))))
  (dSeq (dFor (dRng1 (dCons (dCall sp__law_draw (dCons (dVar 0) (dCons (dC (.int 7)) dNil))) dNil)) (dgName 5) (dSeq (dIfS (dB (dOp rGt (dVar 3) (dCB rLen (dCons (dVar 1) dNil)))) dBreak dNext)
  (dSeq (dSet 6 (dOp DL.rAdd (dVar 3) (dCall sp__law_draw (dCons (dVar 0) (dCons (dOp DL.rAdd (dCB rMin (dCons (dOp DL.rSub (dCB rLen (dCons (dVar 1) dNil)) (dVar 3)) (dCons (dVar 4) dNil))) (dC (.int 1))) dNil)))))
  (dSeq (dSet 7 (dOp DL.rAdd (dVar 6) (dCall sp__law_draw (dCons (dVar 0) (dCons (dOp DL.rAdd (dCB rMin (dCons (dOp DL.rSub (dCB rLen (dCons (dVar 1) dNil)) (dVar 6)) (dCons (dVar 4) dNil))) (dC (.int 1))) dNil)))))
  (dSeq (dDrop (dM "list" rAppendD (dVar 2) (dCons (dTup (dCons (dVar 6) (dCons (dVar 7) (dCons (dCall sp__law_put (dCons (dVar 0) (dCons (dVar 1) dNil))) dNil)))) dNil)))
  (dSet 3 (dOp DL.rAdd (dVar 7) (dC (.int 1)))))))))
  (dRet (dCB rTuple (dCons (dVar 2) dNil)))))
theorem read__law_edits : ∀ ds S R, sp__law_edits ds S R → t__law_edits { nx := fun _ S' => R .non S', rt := R } (dstart N__law_edits ds) S := by
  rintro ds S R ⟨b, c, l, rfl, B, hl, ok, k⟩
  refine rd [some _, some _, none, none, none, none, none, none] rfl ?_
  unfold t__law_edits
  walk_at "ev"
  intro p hp
  have op := B.off hp
  walk_at "ev"
  refine do_draw (by walk_at "bag") (fun a0 S1 ha B1 u1 => ?_) ⟨by split <;> omega, by split <;> omega⟩
  walk_at "ev"
  intro q hq
  walk_at "ev"
  refine do_pickN B1 hq (fun d hd S2 B2 u2 => ?_) ⟨by simp, by simp⟩
  obtain ⟨w, rfl, hw⟩ : ∃ w : Nat, d = .int (w : Nat) ∧ w ≤ 9 := by
    simp only [List.mem_cons, List.mem_nil_iff, or_false] at hd
    rcases hd with rfl | rfl | rfl
    · exact ⟨0, rfl, by omega⟩
    · exact ⟨2, rfl, by omega⟩
    · exact ⟨9, rfl, by omega⟩
  walk_at "ev"
  refine do_draw B2 (fun n S3 hn B3 u3 => ?_) (by decide)
  walk_at "ev"
  have hp3 : S3 p = some (.lst []) := by walk_at "lku"
  have u03 : Up (bc b c) S S3 := by walk_at "ups"
  clear hq u1 u2 u3 B1 B2
  rw [Int.toNat_natCast]
  have Inv : ∀ (P : List ED → Prop) (x y z : Option D) (τ : DSt) (S' : DS), True := fun _ _ _ _ _ _ => trivial
  refine forB (fun i τ S' => ∃ (a : Nat) (es : List ED) (x y z : Option D), τ = [some (.ref b), some (.str (mk l)), some (.ref p), some (.int (a : Nat)), some (.int (w : Nat)), x, y, z] ∧ Bag b c S' ∧ S' p = some (.lst (es.map eD)) ∧ Up (bc b c) S S' ∧ es.length = i ∧ AllS l es a ∧ (∀ e ∈ es, e.2.2.length ≤ 5 ∧ Ok e.2.2))
    (fun τ S' => ∃ (a : Nat) (es : List ED) (x y z : Option D), τ = [some (.ref b), some (.str (mk l)), some (.ref p), some (.int (a : Nat)), some (.int (w : Nat)), x, y, z] ∧ Bag b c S' ∧ S' p = some (.lst (es.map eD)) ∧ Up (bc b c) S S' ∧ es.length ≤ 6 ∧ AllS l es a ∧ (∀ e ∈ es, e.2.2.length ≤ 5 ∧ Ok e.2.2))
    ⟨a0, [], none, none, none, rfl, B3, hp3, u03, rfl, fun r h => h.low (Nat.zero_le _), by simp⟩ (fun _ _ _ _ _ => trivial) ?_ ?_ ?_
  · rintro nx N hO i d τ S4 hd hi ⟨a, es, x, y, z, rfl, B4, hp4, u4, rfl, hA, hes⟩ hN
    rw [upTo_len] at hi
    walk_at "ev"
    refine br (fun h => ?_) fun h => ?_
    · walk_at "ev"
      exact hO _ _ ⟨a, es, _, _, _, rfl, B4, hp4, u4, by omega, hA, hes⟩
    · simp only [decide_eq_false_iff_not] at h
      walk_at "ev"
      refine do_draw B4 (fun j S5 hj B5 u5 => ?_) ⟨by split <;> omega, by split <;> omega⟩
      walk_at "ev"
      have hj2 : a + j ≤ l.length := by split at hj <;> omega
      refine do_draw B5 (fun m S6 hm B6 u6 => ?_) ⟨by split <;> omega, by split <;> omega⟩
      have hm2 : a + j + m ≤ l.length := by split at hm <;> omega
      walk_at "ev"
      refine ⟨.inl ⟨rfl, es.map eD, .inl (by walk_at "lku")⟩, ?_⟩
      walk_at "ev"
      refine ⟨b, c, l, rfl, B6, hl, ok, fun t S7 ht okt B7 u7 => ?_⟩
      walk_at "ev"
      refine ev_app (xs := es.map eD) (by walk_at "lku") (by rw [List.length_map, sizeLine_eq]; omega) ?_
      walk_at "ev"
      have e : ((a : Int) + (j : Nat) + (m : Nat) + 1) = ((a + j + m + 1 : Nat) : Int) := by omega
      rw [e]
      refine hN _ _ ⟨a + j + m + 1, es ++ [(a + j, a + j + m, t)], _, _, _, rfl, ?_, ?_, ?_, by simp, ?_, ?_⟩
      · obtain ⟨ne, ns, d0, m0, g1, g2, g3⟩ := B7
        obtain ⟨o1, o2⟩ := not_or.mp op
        exact ⟨ne, ns, d0, m0, by rw [set_ne (Ne.symm o1)]; exact g1, by rw [set_ne (Ne.symm o2)]; exact g2, g3⟩
      · rw [set_same, List.map_append]; rfl
      · exact (((u4.trans u5).trans u6).trans u7).setIn hp
      · intro r hr
        have := hA ((a + j, a + j + m, t) :: r) ⟨by dsimp only; omega, by dsimp only; omega, hm2, hr⟩
        rwa [List.append_assoc]
      · intro e he
        rcases List.mem_append.mp he with he | he
        · exact hes e he
        · rw [List.mem_singleton] at he
          subst he
          exact ⟨ht, okt⟩
  · rintro τ S4 ⟨a, es, x, y, z, rfl, B4, hp4, u4, he, hA, hes⟩
    rw [upTo_len] at he
    exact ⟨a, es, x, y, z, rfl, B4, hp4, u4, by omega, hA, hes⟩
  · rintro τ S4 ⟨a, es, x, y, z, rfl, B4, hp4, u4, he, hA, hes⟩
    walk_at "ev"
    refine ev_tuple_r (.inl hp4) ?_
    have := hA [] trivial
    rw [List.append_nil] at this
    exact k es S4 this he hes B4 u4
def sp__law_others : DSp := fun ds S R => ∃ (b c : Addr) (l : List Nat), ds = [.ref b, .str (mk l)] ∧ Bag b c S ∧ l.length ≤ 40 ∧ Ok l ∧ ∀ p (ts : List (List Nat)) S', (∀ t ∈ ts, t.length ≤ 500 ∧ Ok t) → S' p = some (.lst (ts.map fun t => .str (mk t))) → ¬ bc b c p → Bag b c S' → Up (bc b c) S S' → R (.ref p) S'
abbrev N__law_others : List Str := ["bag", "text", "many", "at", "some"]
abbrev ps__law_others : List Str := ["bag", "text"]
def t__law_others : DTS := (dSeq (dSet 2 (dCB rLen (dCons (dVar 1) dNil)))
  (dSeq (dSet 3 (dCall sp__law_draw (dCons (dVar 0) (dCons (dOp DL.rAdd (dVar 2) (dC (.int 1))) dNil))))
  (dSeq (dSet 4 (dLst (dCons (dVar 1) (dCons (dSlice (dVar 1) dNoPart (dPart (dVar 3))) (dCons (dSlice (dVar 1) (dPart (dVar 3)) dNoPart) (dCons (dOp DL.rAdd (dVar 1) (dSlice (dVar 1) dNoPart (dPart (dVar 3)))) (dCons (dOp DL.rAdd (dSlice (dVar 1) dNoPart (dPart (dVar 3))) (dVar 1)) (dCons (dUn rBack (dVar 1)) (dCons (dCall sp__law_text (dCons (dVar 0) dNil)) (dCons (dC (.str "")) dNil))))))))))
  (dRet (dLst (dCons (dCall sp__law_pick (dCons (dVar 0) (dCons (dVar 4) dNil))) (dCons (dCall sp__law_done (dCons (dVar 1) (dCons (dLst (dCons (dCall sp__law_edit (dCons (dVar 0) (dCons (dVar 1) dNil))) dNil)) dNil))) (dCons (dCall sp__law_done (dCons (dVar 1) (dCons (dCall sp__law_edits (dCons (dVar 0) (dCons (dVar 1) dNil))) dNil))) dNil))))))))
theorem EdsOk.of {l : List Nat} {es : List ED} (h : SrtS l 0 es) (h6 : es.length ≤ 6) (h5 : ∀ e ∈ es, e.2.2.length ≤ 5 ∧ Ok e.2.2) (hl : l.length ≤ 100000) : EdsOk l es ∧ putsL es ≤ 30 := by
  have : ∀ es : List ED, (∀ e ∈ es, e.2.2.length ≤ 5 ∧ Ok e.2.2) → putsL es ≤ 5 * es.length := by
    intro es h5
    induction es with
    | nil => simp [putsL]
    | cons e es ih =>
      have := ih fun e he => h5 e (List.mem_cons_of_mem _ he)
      have := (h5 e List.mem_cons_self).1
      simp only [putsL, List.map_cons, List.sum_cons, List.length_cons] at *
      omega
  have := this es h5
  exact ⟨⟨h.srt, hl, by omega⟩, by omega⟩
theorem doneL_ok {l : List Nat} (ok : Ok l) : ∀ {es : List ED} {a : Nat}, (∀ e ∈ es, Ok e.2.2) → Ok (doneL l a es)
  | [], _, _ => ok.drop
  | e :: r, a, h => ((ok.drop.take).app (h e List.mem_cons_self)).app (doneL_ok ok fun e he => h e (List.mem_cons_of_mem _ he))
theorem SrtS.one {l : List Nat} {e : ED} (h : EdOk l e) : SrtS l 0 [e] := ⟨Nat.zero_le _, h.1, h.2, trivial⟩
theorem read__law_others : ∀ ds S R, sp__law_others ds S R → t__law_others { nx := fun _ S' => R .non S', rt := R } (dstart N__law_others ds) S := by
  rintro ds S R ⟨b, c, l, rfl, B, hl, ok, k⟩
  refine rd [some _, some _, none, none, none] rfl ?_
  unfold t__law_others
  walk_at "lits"
  walk_at "ev"
  refine do_draw B (fun j S1 hj B1 u1 => ?_) ⟨by omega, by omega⟩
  walk_at "ev"
  refine ⟨b, c, rfl, B1, fun t S2 ht okt B2 u2 => ?_⟩
  walk_at "ev"
  intro p hp
  walk_at "ev"
  refine do_pickN B2 hp (fun d hd S3 B3 u3 => ?_) ⟨by simp, by simp⟩
  obtain ⟨o, rfl, ho, oko⟩ : ∃ o, d = .str (mk o) ∧ o.length ≤ 500 ∧ Ok o := by
    have c1 := cut_len l none (some (j : Int))
    have c2 := cut_len l (some (j : Int)) none
    simp only [List.mem_cons, List.mem_nil_iff, or_false] at hd
    rcases hd with rfl | rfl | rfl | rfl | rfl | rfl | rfl | rfl
    · exact ⟨_, rfl, by omega, ok⟩
    · exact ⟨_, rfl, by omega, ok.cut⟩
    · exact ⟨_, rfl, by omega, ok.cut⟩
    · exact ⟨_, rfl, by rw [List.length_append]; omega, ok.app ok.cut⟩
    · exact ⟨_, rfl, by rw [List.length_append]; omega, ok.cut.app ok⟩
    · exact ⟨_, rfl, by rw [List.length_reverse]; omega, ok.rev⟩
    · exact ⟨_, rfl, by omega, okt⟩
    · exact ⟨_, rfl, by simp, Ok.nil⟩
  walk_at "ev"
  refine ⟨b, c, l, rfl, B3, by omega, ok, fun e S4 he h5 ok5 B4 u4 => ?_⟩
  walk_at "ev"
  intro p1 hp1
  walk_at "ev"
  have eo := EdsOk.of (SrtS.one he) (by simp) (fun x hx => by rw [List.mem_singleton] at hx; subst hx; exact ⟨h5, ok5⟩) (show l.length ≤ 100000 by omega)
  refine ⟨l, [e], _, rfl, .inr ⟨p1, rfl, set_same⟩, eo.1, ?_⟩
  walk_at "ev"
  refine ⟨b, c, l, rfl, by walk_at "bag", by omega, ok, fun es S5 hs h6 h5s B5 u5 => ?_⟩
  walk_at "ev"
  have eo2 := EdsOk.of hs h6 h5s (show l.length ≤ 100000 by omega)
  refine ⟨l, es, _, rfl, .inl rfl, eo2.1, ?_⟩
  walk_at "ev"
  intro p2 hp2
  have l1 := doneL_len eo.1.srt
  have l2 := doneL_len eo2.1.srt
  refine k p2 [o, doneL l 0 [e], doneL l 0 es] _ ?_ set_same (by walk_at "off") (by walk_at "bag") (by walk_at "ups")
  intro t ht
  simp only [List.mem_cons, List.mem_nil_iff, or_false] at ht
  rcases ht with rfl | rfl | rfl
  · exact ⟨ho, oko⟩
  · exact ⟨by omega, doneL_ok ok fun x hx => by rw [List.mem_singleton] at hx; subst hx; exact ok5⟩
  · exact ⟨by omega, doneL_ok ok fun x hx => (h5s x hx).2⟩

theorem pl_eD {l : List Nat} {e : ED} (h : EdOk l e) (hl : l.length ≤ 1000000) (ok : Ok e.2.2) : plD (eD e) = true := by
  obtain ⟨h1, h2⟩ := h
  unfold eD
  refine pl_tup (pl_cons (pl_int ⟨by omega, by omega⟩) (pl_cons (pl_int ⟨by omega, by omega⟩) (pl_cons (pl_str ok) pl_nil)))
theorem blk_eD {e : ED} : blk (eD e) = e.2.2.length + 3 := by
  unfold eD
  simp only [blk_tup, blk_cons, blk_int, blk_str, blk_nil]
  omega
theorem dep_eD {e : ED} : dep (eD e) = 1 := by
  unfold eD
  simp only [dep_tup, dep_cons, dep_int, dep_str, dep_nil]
  omega
theorem kv_eD {S : DS} {e : ED} : Kv S (eD e) := by
  refine ⟨⟨_, .tup⟩, fun es he x hx => ?_⟩
  unfold eD at he
  cases he
  simp only [List.mem_cons, List.mem_nil_iff, or_false] at hx
  rcases hx with rfl | rfl | rfl
  · exact ⟨_, .int⟩
  · exact ⟨_, .int⟩
  · exact ⟨_, .str⟩
theorem err_eD {l : List Nat} {e : ED} (h : EdOk l e) : errD l (eD e) = .non := by
  obtain ⟨h1, h2⟩ := h
  show (if (0 : Int) ≤ (e.1 : Int) ∧ (e.1 : Int) ≤ (e.2.1 : Int) ∧ (e.2.1 : Int) ≤ l.length then D.non else .str "range") = _
  rw [if_pos ⟨by omega, by omega, by omega⟩]
theorem doneL_one (l : List Nat) (e : ED) : doneL l 0 [e] = doneE l e := by
  simp [doneL, doneE]
theorem back_ok {l : List Nat} {e : ED} (h : EdOk l e) : EdOk (doneE l e) (backE l e) := by
  obtain ⟨h1, h2⟩ := h
  refine ⟨by show e.1 ≤ e.1 + _; omega, ?_⟩
  show e.1 + e.2.2.length ≤ (l.take e.1 ++ e.2.2 ++ l.drop e.2.1).length
  simp only [List.length_append, List.length_take, List.length_drop]
  omega
theorem done_back {l : List Nat} {e : ED} (h : EdOk l e) : doneE (doneE l e) (backE l e) = l := by
  obtain ⟨b, f, p⟩ := e
  obtain ⟨h1, h2⟩ := h
  dsimp only at h1 h2
  show (l.take b ++ p ++ l.drop f).take b ++ (l.drop b).take (f - b) ++ (l.take b ++ p ++ l.drop f).drop (b + p.length) = l
  have e1 : (l.take b).length = b := by rw [List.length_take]; omega
  have e2 : (l.take b ++ p).length = b + p.length := by rw [List.length_append, e1]
  have e3 : (l.take b ++ p).drop (b + p.length) = [] := by rw [← e2]; exact List.drop_length
  rw [List.append_assoc (l.take b) p, List.take_append_of_le_length (by omega), List.take_take, Nat.min_self, ← List.append_assoc (l.take b) p, List.drop_append_of_le_length (by omega), e3, List.nil_append, take_mid l b f h1, List.take_append_drop]
theorem back_back {l : List Nat} {e : ED} (h : EdOk l e) : backE (doneE l e) (backE l e) = e := by
  obtain ⟨b, f, p⟩ := e
  obtain ⟨h1, h2⟩ := h
  dsimp only at h1 h2
  show (b, b + ((l.drop b).take (f - b)).length, ((l.take b ++ p ++ l.drop f).drop b).take (b + p.length - b)) = (b, f, p)
  have e1 : (l.take b).length = b := by rw [List.length_take]; omega
  have e2 : b + ((l.drop b).take (f - b)).length = f := by rw [List.length_take, List.length_drop]; omega
  rw [e2, List.append_assoc, List.drop_append_of_le_length (by omega), List.drop_of_length_le (by omega), List.nil_append, List.take_append_of_le_length (by omega), List.take_of_length_le (by omega)]
theorem done_len {l : List Nat} {e : ED} (h : EdOk l e) : (doneE l e).length ≤ l.length + e.2.2.length := by
  unfold doneE
  simp only [List.length_append, List.length_take, List.length_drop]
  have := h.1
  have := h.2
  omega
theorem back_len {l : List Nat} {e : ED} (h : EdOk l e) : (backE l e).2.2.length ≤ l.length := by
  show ((l.drop e.1).take (e.2.1 - e.1)).length ≤ _
  rw [List.length_take, List.length_drop]
  omega
theorem done_ok {l : List Nat} {e : ED} (h : Ok l) (g : Ok e.2.2) : Ok (doneE l e) := (h.take.app g).app h.drop
theorem back_okk {l : List Nat} {e : ED} (h : Ok l) : Ok (backE l e).2.2 := h.drop.take
def sp__law_is_edit_right : DSp := fun ds S R => ∃ l e, ds = [.str (mk l), eD e] ∧ EdOk l e ∧ l.length ≤ 12000 ∧ e.2.2.length ≤ 1000 ∧ Ok l ∧ Ok e.2.2 ∧ ∀ S', Up noA S S' → R (.bl true) S'
abbrev N__law_is_edit_right : List Str := ["text", "edit", "done", "back", "told"]
abbrev ps__law_is_edit_right : List Str := ["text", "edit"]
def t__law_is_edit_right : DTS := (dSeq (dPar 2 3 (dCons (dCall sp__law_done (dCons (dVar 0) (dCons (dLst (dCons (dVar 1) dNil)) dNil))) (dCons (dTup (dCons (dOp rItem (dVar 1) (dC (.int 0))) (dCons (dOp DL.rAdd (dOp rItem (dVar 1) (dC (.int 0))) (dCB rLen (dCons (dOp rItem (dVar 1) (dC (.int 2))) dNil))) (dCons (dSlice (dVar 0) (dPart (dOp rItem (dVar 1) (dC (.int 0)))) (dPart (dOp rItem (dVar 1) (dC (.int 1))))) dNil)))) dNil)))
  (dSeq (dSet 4 (dLst (dCons (dCall sp_edit_done (dCons (dVar 0) (dCons (dVar 1) dNil))) (dCons (dCallK sp_edit_done [0, 1] 2 (dCons (dVar 0) (dCons (dVar 1) dNil))) (dCons (dCall sp_edit_back (dCons (dVar 0) (dCons (dVar 1) dNil))) dNil)))))
  (dSeq (dSet 4 (dOp DL.rAdd (dVar 4) (dLst (dCons (dCallK sp_edit_back [0, 1] 2 (dCons (dVar 0) (dCons (dVar 1) dNil))) (dCons (dCall sp_edit_error (dCons (dVar 0) (dCons (dVar 1) dNil))) (dCons (dCallK sp_edit_error [0, 1] 2 (dCons (dVar 0) (dCons (dVar 1) dNil))) dNil))))))
  (dSeq (dIfS (dNotT (dTruth (dCall sp__law_like (dCons (dVar 4) (dCons (dLst (dCons (dVar 2) (dCons (dVar 2) (dCons (dVar 3) (dCons (dVar 3) (dCons (dC .non) (dCons (dC .non) dNil))))))) dNil))))) (dRet (dC (.bl false))) dNext)
  (dRet (dCall sp__law_like (dCons (dLst (dCons (dCall sp_edit_done (dCons (dVar 2) (dCons (dVar 3) dNil))) (dCons (dCall sp_edit_back (dCons (dVar 2) (dCons (dVar 3) dNil))) (dCons (dCall sp_edit_error (dCons (dVar 2) (dCons (dVar 3) dNil))) dNil)))) (dCons (dLst (dCons (dVar 0) (dCons (dVar 1) (dCons (dC .non) dNil)))) dNil))))))))
theorem read__law_is_edit_right : ∀ ds S R, sp__law_is_edit_right ds S R → t__law_is_edit_right { nx := fun _ S' => R .non S', rt := R } (dstart N__law_is_edit_right ds) S := by
  rintro ds S R ⟨l, e, rfl, he, hl, hp, ok, oke, k⟩
  refine rd [some _, some _, none, none, none] rfl ?_
  unfold t__law_is_edit_right
  have hd := done_len he
  have hb := back_len he
  have bo := back_ok he
  walk_at "ev"
  intro p1 f1
  walk_at "ev"
  refine ⟨l, [e], _, rfl, .inr ⟨p1, rfl, set_same⟩, ⟨(SrtS.one he).srt, by omega, by simp [putsL]; omega⟩, ?_⟩
  rw [doneL_one]
  have ee : eD e = .tup [.int e.1, .int e.2.1, .str (mk e.2.2)] := rfl
  rw [ee]
  walk_at "ev"
  rw [cutN_nn', ← ee]
  have eb : D.tup [D.int e.1, .int ((e.1 : Int) + (e.2.2.length : Nat)), .str (mk ((l.drop e.1).take (e.2.1 - e.1)))] = eD (backE l e) := by
    show _ = D.tup [.int (e.1 : Nat), .int ((e.1 + e.2.2.length : Nat) : Int), .str (mk ((l.drop e.1).take (e.2.1 - e.1)))]
    rw [Int.natCast_add]
  rw [eb]
  walk_at "ev"
  refine ⟨l, e, rfl, he, by omega, by omega, ?_⟩
  walk_at "ev"
  refine ⟨l, e, rfl, he, by omega, by omega, ?_⟩
  walk_at "ev"
  refine ⟨l, e, rfl, he, by omega, by omega, ?_⟩
  walk_at "ev"
  intro p2 f2
  walk_at "ev"
  refine ⟨l, e, rfl, he, by omega, by omega, ?_⟩
  walk_at "ev"
  refine ⟨l, _, rfl, by omega, kv_eD, ?_⟩
  walk_at "ev"
  refine ⟨l, _, rfl, by omega, kv_eD, ?_⟩
  rw [err_eD he]
  walk_at "ev"
  intro p3 f3
  refine ev_add_rr (by walk_at "lku") set_same (fun p4 f4 => ?_) (by rw [sizeLine_eq]; simp)
  walk_at "ev"
  intro p5 f5
  walk_at "ev"
  have pb : plD (eD (backE l e)) = true := pl_eD bo (by omega) (back_okk ok)
  have pe : plD (eD e) = true := pl_eD he (by omega) oke
  have okd : Ok (doneE l e) := done_ok ok oke
  refine like_lst (by walk_at "lku") set_same ?_ ?_ ?_ ?_
  · walk_at "pls"
  · show blks _ ≤ _
    walk_at "blk"
    rw [blk_eD]
    omega
  · show deps _ ≤ _
    walk_at "blk"
    rw [dep_eD]
    omega
  walk_at "ev"
  refine ⟨doneE l e, backE l e, rfl, bo, by omega, by omega, ?_⟩
  rw [done_back he]
  walk_at "ev"
  refine ⟨doneE l e, backE l e, rfl, bo, by omega, by omega, ?_⟩
  rw [back_back he]
  walk_at "ev"
  refine ⟨doneE l e, _, rfl, by omega, kv_eD, ?_⟩
  rw [err_eD bo]
  walk_at "ev"
  intro p6 f6
  walk_at "ev"
  intro p7 f7
  walk_at "ev"
  refine like_lst (by walk_at "lku") set_same ?_ ?_ ?_ ?_
  · walk_at "pls"
  · show blks _ ≤ _
    walk_at "blk"
    rw [blk_eD]
    omega
  · show deps _ ≤ _
    walk_at "blk"
    rw [dep_eD]
    omega
  exact k _ (by walk_at "ups")

theorem betw_ok (l m : List Nat) : EdOk l (betwE l m) := by
  have cl := cp_le l m
  have cr := cp_le l.reverse m.reverse
  have hcs : min (cp l.reverse m.reverse) (min l.length m.length - cp l m) = cs l m := rfl
  refine ⟨?_, ?_⟩
  · show cp l m ≤ l.length - cs l m
    omega
  · show l.length - cs l m ≤ l.length
    omega
theorem betw_len (l m : List Nat) : (betwE l m).2.2.length ≤ m.length := by
  show (List.take _ _).length ≤ _
  rw [List.length_take, List.length_drop]
  omega
theorem betw_okk (l : List Nat) {m : List Nat} (h : Ok m) : Ok (betwE l m).2.2 := h.drop.take
theorem done_betw (l m : List Nat) : doneE l (betwE l m) = m := by
  have cl := cp_le l m
  have cr := cp_le l.reverse m.reverse
  simp only [List.length_reverse] at cr
  have hcs : min (cp l.reverse m.reverse) (min l.length m.length - cp l m) = cs l m := rfl
  show l.take (cp l m) ++ (m.drop (cp l m)).take (m.length - cs l m - cp l m) ++ l.drop (l.length - cs l m) = m
  have e1 : l.take (cp l m) = m.take (cp l m) := (cp_take l m _ cl.1 cl.2).mpr (Nat.le_refl _)
  have e2 : l.reverse.take (cs l m) = m.reverse.take (cs l m) := (cp_take l.reverse m.reverse _ (by simp; omega) (by simp; omega)).mpr (by omega)
  have e3 : l.drop (l.length - cs l m) = m.drop (m.length - cs l m) := by
    have q := congrArg List.reverse e2
    rw [List.reverse_take, List.reverse_take, List.reverse_reverse, List.reverse_reverse, List.length_reverse, List.length_reverse] at q
    exact q
  rw [e1, e3, take_mid m (cp l m) (m.length - cs l m) (by omega), List.take_append_drop]
def sp__law_is_between_right : DSp := fun ds S R => ∃ x l m, ds = [x, .str (mk l), .str (mk m)] ∧ l.length ≤ 13000 ∧ m.length ≤ 13000 ∧ (l.length ≤ 40 → m.length ≤ 1000) ∧ Ok l ∧ Ok m ∧ ∀ S', Up noA S S' → R (.bl true) S'
abbrev N__law_is_between_right : List Str := ["bag", "text", "other", "due", "told", "back"]
abbrev ps__law_is_between_right : List Str := ["bag", "text", "other"]
def t__law_is_between_right : DTS := (dSeq (dSet 3 (dCall sp__law_between (dCons (dVar 1) (dCons (dVar 2) dNil))))
  (dSeq (dSet 4 (dLst (dCons (dCall sp_edit_between (dCons (dVar 1) (dCons (dVar 2) dNil))) (dCons (dCallK sp_edit_between [0, 1] 2 (dCons (dVar 1) (dCons (dVar 2) dNil))) (dCons (dCall sp_edit_done (dCons (dVar 1) (dCons (dVar 3) dNil))) dNil)))))
  (dSeq (dIfS (dNotT (dTruth (dCall sp__law_like (dCons (dVar 4) (dCons (dLst (dCons (dVar 3) (dCons (dVar 3) (dCons (dVar 2) dNil)))) dNil))))) (dRet (dC (.bl false))) dNext)
  (dSeq (dSet 5 (dCall sp__law_between (dCons (dVar 2) (dCons (dVar 1) dNil))))
  (dRet (dAndV (dCall sp__law_like (dCons (dCall sp_edit_between (dCons (dVar 2) (dCons (dVar 1) dNil))) (dCons (dVar 5) dNil))) (dOrV (dOp rGt (dCB rLen (dCons (dVar 1) dNil)) (dC (.int 40))) (dCall sp__law_is_least (dCons (dVar 1) (dCons (dVar 2) (dCons (dOp rItem (dVar 4) (dC (.int 0))) dNil)))))))))))
theorem read__law_is_between_right : ∀ ds S R, sp__law_is_between_right ds S R → t__law_is_between_right { nx := fun _ S' => R .non S', rt := R } (dstart N__law_is_between_right ds) S := by
  rintro ds S R ⟨x, l, m, rfl, hl, hm, hlm, okl, okm, k⟩
  refine rd [some _, some _, some _, none, none, none] rfl ?_
  unfold t__law_is_between_right
  walk_at "ev"
  refine ⟨l, m, rfl, by omega, by omega, ?_⟩
  walk_at "ev"
  refine ⟨l, m, rfl, by omega, by omega, ?_⟩
  walk_at "ev"
  refine ⟨l, m, rfl, by omega, by omega, ?_⟩
  walk_at "ev"
  have bl := betw_len l m
  refine ⟨l, betwE l m, rfl, betw_ok l m, by omega, by omega, ?_⟩
  rw [done_betw]
  walk_at "ev"
  intro p1 f1
  walk_at "ev"
  intro p2 f2
  walk_at "ev"
  have pb : plD (eD (betwE l m)) = true := pl_eD (betw_ok l m) (by omega) (betw_okk l okm)
  refine like_lst (by walk_at "lku") set_same ?_ ?_ ?_ ?_
  · walk_at "pls"
  · show blks _ ≤ _
    walk_at "blk"
    rw [blk_eD]
    omega
  · show deps _ ≤ _
    walk_at "blk"
    rw [dep_eD]
    omega
  walk_at "ev"
  refine ⟨m, l, rfl, by omega, by omega, ?_⟩
  walk_at "ev"
  refine ⟨m, l, rfl, by omega, by omega, ?_⟩
  walk_at "ev"
  have bl2 := betw_len m l
  refine like_pl (pl_eD (betw_ok m l) (by omega) (betw_okk m okl)) (by show blk _ ≤ _; rw [blk_eD]; omega) (by show dep _ ≤ _; rw [dep_eD]; omega) ?_
  walk_at "ev"
  refine br (fun h => ?_) fun h => ?_
  · exact k _ (by walk_at "ups")
  · simp only [decide_eq_false_iff_not] at h
    walk_at "ev"
    exact ⟨l, m, rfl, by omega, hlm (by omega), k _ (by walk_at "ups")⟩
/-- d and what stands in it, as it was -/
abbrev WvB (b c : Addr) (S : DS) (d : D) : Prop := Wv (bc b c) S 100 4 d
theorem Wv.kv {N : Addr → Prop} {S : DS} {k n : Nat} {d : D} (h : Wv N S k n d) : Kv S d := by
  obtain ⟨p, h, g⟩ := h
  exact ⟨h.ty, fun es he e m => by
    subst he
    obtain ⟨q, hq⟩ := h.items m
    exact hq.ty⟩
theorem Wv.kv2 {N : Addr → Prop} {S : DS} {k n : Nat} {d : D} (h : Wv N S k n d) : Kv2 S d := by
  obtain ⟨p, h, g⟩ := h
  exact ⟨h.ty, fun es he e m => by
    subst he
    obtain ⟨q, hq⟩ := h.items m
    exact ⟨hq.ty, fun es2 he2 e2 m2 => by
      subst he2
      obtain ⟨q2, hq2⟩ := hq.items m2
      exact hq2.ty⟩⟩
theorem ev_dict0 {τ : DSt} {S : DS} {R : DK} (k : ∀ p, Fresh S p → R (.ref p) (S.set p (.dK []))) : dDict0 τ S R := k
theorem ev_dict1 {τ : DSt} {S : DS} {R : DK} {tk tv : DTE} (k : ∀ p, Fresh S p → tk τ (S.set p (.dK [])) fun dk S1 => tv τ S1 fun dv S2 => ∃ x, dk = .str x ∧ S2 p = some (.dK []) ∧ R (.ref p) (S2.set p (.dK [(.inr x, dv)]))) : dDict1 tk tv τ S R := k
theorem log_nat {n : Nat} (h : n ≤ 1000000) : ((n : Int)).natAbs.log2 < 1920 := int_log (by simp; exact Nat.lt_of_le_of_lt h (by decide))
theorem ev_str_i {S : DS} {R : DK} {i : Int} (k : R (.str (toString i)) S) (h : i.natAbs.log2 < 1920) : rStr [.int i] S R := ⟨h, k⟩
def sp__law_wrong_edits : DSp := fun ds S R => ∃ b c l e, ds = [.ref b, .str (mk l), eD e] ∧ Bag b c S ∧ EdOk l e ∧ l.length ≤ 12000 ∧ e.2.2.length ≤ 5 ∧ Ok e.2.2 ∧ ∀ p xs S', Up noA S S' → ¬ bc b c p → S' p = some (.lst xs) → xs ≠ [] → xs.length < 1000000 → (∀ d ∈ xs, WvB b c S' d) → R (.ref p) S'
abbrev N__law_wrong_edits : List Str := ["bag", "text", "edit", "begin", "end", "put", "many"]
abbrev ps__law_wrong_edits : List Str := ["bag", "text", "edit"]
def t__law_wrong_edits : DTS := (dSeq (dAsg (dVar 2) (dgTup 3 (dgCons (dgName 3) (dgCons (dgName 4) (dgCons (dgName 5) dgNil)))))
  (dSeq (dSet 6 (dCB rLen (dCons (dVar 1) dNil)))
  (dRet (dLst (dCons (dC .non) (dCons (dLst (dCons (dVar 3) (dCons (dVar 4) (dCons (dVar 5) dNil)))) (dCons (dTup (dCons (dVar 3) (dCons (dVar 4) dNil))) (dCons (dTup (dCons (dVar 3) (dCons (dVar 4) (dCons (dVar 5) (dCons (dVar 5) dNil))))) (dCons (dTup (dCons (dOp (DL.rEq false) (dVar 3) (dC (.int 0))) (dCons (dVar 4) (dCons (dVar 5) dNil)))) (dCons (dTup dNil) (dCons (dC (.str "")) (dCons (dC (.int 0)) (dCons (dC (.bl false)) (dCons (dTup (dCons (dVar 3) (dCons (dOp (DL.rEq false) (dVar 4) (dC (.int 1))) (dCons (dVar 5) dNil)))) (dCons (dTup (dCons (dC (.bl true)) (dCons (dC (.bl true)) (dCons (dVar 5) dNil)))) (dCons (dTup (dCons (dCB rStr (dCons (dVar 3) dNil)) (dCons (dVar 4) (dCons (dVar 5) dNil)))) (dCons (dTup (dCons (dVar 3) (dCons (dLst (dCons (dVar 4) dNil)) (dCons (dVar 5) dNil)))) (dCons dDict0 (dCons (dTup (dCons (dVar 3) (dCons (dVar 4) (dCons (dLst (dCons (dVar 5) dNil)) dNil)))) (dCons (dTup (dCons (dVar 3) (dCons (dVar 4) (dCons (dC (.int 0)) dNil)))) (dCons (dTup (dCons (dUn rNeg (dC (.int 1))) (dCons (dVar 4) (dCons (dVar 5) dNil)))) (dCons (dTup (dCons (dUn rNeg (dC (.int 1))) (dCons (dVar 4) (dCons (dC (.int 0)) dNil)))) (dCons (dTup (dCons (dUn rNeg (dC (.int 1))) (dCons (dC (.bl true)) (dCons (dVar 5) dNil)))) (dCons (dTup (dCons (dVar 3) (dCons (dVar 4) (dCons (dC .non) dNil)))) (dCons (dTup (dCons (dVar 3) (dCons (dOp DL.rAdd (dVar 6) (dC (.int 1))) (dCons (dVar 5) dNil)))) (dCons (dTup (dCons (dOp DL.rAdd (dVar 6) (dC (.int 1))) (dCons (dOp DL.rAdd (dVar 6) (dC (.int 1))) (dCons (dC (.str "")) dNil)))) (dCons (dTup (dCons (dOp DL.rSub (dVar 3) (dC (.int 1))) (dCons (dVar 4) (dCons (dVar 5) dNil)))) (dCons (dTup (dCons (dOp DL.rAdd (dVar 4) (dC (.int 1))) (dCons (dVar 4) (dCons (dVar 5) dNil)))) (dCons (dTup (dCons (dVar 4) (dCons (dVar 3) (dCons (dVar 5) dNil)))) (dCons (dDict1 (dC (.str "begin")) (dVar 3)) (dCons (dTup (dCons (dVar 3) (dCons (dOp DL.rAdd (dVar 4) (dC (.int 1))) (dCons (dVar 5) dNil)))) (dCons (dTup (dCons (dVar 3) (dCons (dOp DL.rSub (dVar 3) (dC (.int 1))) (dCons (dVar 5) dNil)))) (dCons (dTup (dCons (dOp DL.rPow (dC (.int 10)) (dC (.int 60))) (dCons (dOp DL.rPow (dC (.int 10)) (dC (.int 60))) (dCons (dC (.str "")) dNil)))) (dCons (dTup (dCons (dUn rNeg (dOp DL.rPow (dC (.int 10)) (dC (.int 60)))) (dCons (dVar 4) (dCons (dVar 5) dNil)))) (dCons (dTup (dCons (dC (.int 0)) (dCons (dOp DL.rPow (dC (.int 10)) (dC (.int 60))) (dCons (dC (.str "")) dNil)))) (dCons (dTup (dCons (dVar 3) (dCons (dUn rNeg (dC (.int 1))) (dCons (dVar 5) dNil)))) (dCons (dTup (dCons (dTup (dCons (dVar 3) (dCons (dVar 4) (dCons (dVar 5) dNil)))) dNil)) (dCons (dTup (dCons (dVar 3) (dCons (dVar 4) (dCons (dTup (dCons (dVar 5) dNil)) dNil)))) (dCons (dTup (dCons (dVar 3) (dCons (dC .non) (dCons (dVar 5) dNil)))) (dCons (dTup (dCons (dVar 5) (dCons (dVar 3) (dCons (dVar 4) dNil)))) dNil))))))))))))))))))))))))))))))))))))))))
theorem read__law_wrong_edits : ∀ ds S R, sp__law_wrong_edits ds S R → t__law_wrong_edits { nx := fun _ S' => R .non S', rt := R } (dstart N__law_wrong_edits ds) S := by
  rintro ds S R ⟨b, c, l, ⟨i, j, p⟩, rfl, B, ⟨h1, h2⟩, hl, hp, ok, k⟩
  refine rd [some _, some _, some _, none, none, none, none] rfl ?_
  unfold t__law_wrong_edits
  dsimp only at h1 h2 hp ok
  unfold eD
  walk_at "lits"
  walk_at "ev"
  intro p1 f1
  walk_at "ev"
  refine ev_str_i ?_ (log_nat (by omega))
  walk_at "ev"
  intro p2 f2
  walk_at "ev"
  refine ev_dict0 fun p3 f3 => ?_
  walk_at "ev"
  intro p4 f4
  walk_at "ev"
  refine ev_dict1 fun p5 f5 => ?_
  walk_at "ev"
  refine ⟨_, rfl, set_same, ?_⟩
  walk_at "ev"
  intro p6 f6
  simp only [set_set] at f6 ⊢
  have ten : (10 : Int) ^ (60 : Int).toNat = 1000000000000000000000000000000000000000000000000000000000000 := by decide +kernel
  rw [ten]
  have pl10 : plD (.int 1000000000000000000000000000000000000000000000000000000000000) = true := by decide +kernel
  have pl10m : plD (.int (-1000000000000000000000000000000000000000000000000000000000000)) = true := by decide +kernel
  have u : Up noA S (((((S.set p1 (DO.lst [D.int ↑i, D.int ↑j, D.str (mk p)])).set p2 (DO.lst [D.int ↑j])).set p3 (DO.dK [])).set p4 (DO.lst [D.str (mk p)])).set p5 (DO.dK [(Sum.inr (mk [98, 101, 103, 105, 110]), D.int ↑i)])) := by walk_at "ups"
  refine k p6 _ _ (u.trans (Up.set f6)) (by walk_at "off") set_same (by simp) (by simp) (fun d hd => ?_)
  refine Wv.up ?_ (Up.set f6)
  simp only [List.mem_cons, List.mem_nil_iff, or_false] at hd
  rcases hd with rfl | rfl | rfl | rfl | rfl | rfl | rfl | rfl | rfl | rfl | rfl | rfl | rfl | rfl | rfl | rfl | rfl | rfl | rfl | rfl | rfl | rfl | rfl | rfl | rfl | rfl | rfl | rfl | rfl | rfl | rfl | rfl | rfl | rfl | rfl | rfl
  all_goals first
    | (refine wv_pl ?_ ?_ ?_ <;> first | (walk_at "pls"; done) | (walk_at "blk"; omega))
    | skip
  · exact wv_lst (by walk_at "lku") (by walk_at "off") (by walk_at "pls") (by walk_at "blk"; omega) (by walk_at "blk"; omega)
  · have e1 : blk (D.str (Str.ofString (toString (i : Int)))) ≤ 8 := by
      show (PyData.bulk (PyData.str _)) ≤ 8
      simp only [PyData.bulk]
      show (Str.ofString (toString (i : Int))).length ≤ 8
      rw [ofString_len]
      exact int_text_length_le10 (k := 7) (by decide) (by simp; omega)
    refine wv_pl (by walk_at "pls") ?_ ?_
    · rw [blk_tup, blk_cons]
      walk_at "blk"
      omega
    · walk_at "blk"; omega
  · exact wv_among (pre := [D.int i]) (post := [D.str (mk p)]) (k := 10) (n := 1) (wv_lst (by walk_at "lku") (by walk_at "off") (by walk_at "pls") (by walk_at "blk"; omega) (by walk_at "blk"; omega)) (by walk_at "pls") (by walk_at "pls") (by walk_at "blk"; omega) (by walk_at "blk"; omega)
  · exact wv_dict0 (by walk_at "lku") (by walk_at "off") (by omega)
  · exact wv_among (pre := [D.int i, D.int j]) (post := []) (k := 10) (n := 1) (wv_lst (by walk_at "lku") (by walk_at "off") (by walk_at "pls") (by walk_at "blk"; omega) (by walk_at "blk"; omega)) (by walk_at "pls") (by walk_at "pls") (by walk_at "blk"; omega) (by walk_at "blk"; omega)
  · exact wv_dict1 (by walk_at "lku") (by walk_at "off") (by decide +kernel) (by walk_at "pls") (by walk_at "blk"; rw [mk_len]; simp) (by walk_at "blk"; omega)
theorem err_pl {l : List Nat} {d : D} : plD (errD l d) = true ∧ blk (errD l d) ≤ 5 ∧ dep (errD l d) = 0 := by
  have e1 : blk (D.str (Str.ofString "form")) = 4 := by rw [lit_0, blk_str]; rfl
  have e2 : blk (D.str (Str.ofString "range")) = 5 := by rw [lit_1, blk_str]; rfl
  unfold errD
  split
  · split
    · exact ⟨rfl, by rw [blk_non]; omega, dep_non⟩
    · exact ⟨pl_lit _, by omega, dep_str⟩
  · exact ⟨pl_lit _, by rw [e1]; omega, dep_str⟩
def sp__law_are_errors_right : DSp := fun ds S R => ∃ b c l e, ds = [.ref b, .str (mk l), eD e] ∧ Bag b c S ∧ EdOk l e ∧ l.length ≤ 12000 ∧ e.2.2.length ≤ 5 ∧ Ok e.2.2 ∧ ∀ S', Bag b c S' → Up (bc b c) S S' → R (.bl true) S'
abbrev N__law_are_errors_right : List Str := ["bag", "text", "edit", "turn", "value", "kept", "due", "both"]
abbrev ps__law_are_errors_right : List Str := ["bag", "text", "edit"]
def t__law_are_errors_right : DTS := (dSeq (dFor (dRng1 (dCons (dC (.int 6)) dNil)) (dgName 3) (dSeq (dSet 4 (dCall sp__law_pick (dCons (dVar 0) (dCons (dCall sp__law_wrong_edits (dCons (dVar 0) (dCons (dVar 1) (dCons (dVar 2) dNil)))) dNil))))
  (dSeq (dPar 5 6 (dCons (dCB rRepr (dCons (dVar 4) dNil)) (dCons (dCall sp__law_edit_due (dCons (dVar 1) (dCons (dVar 4) dNil))) dNil)))
  (dSeq (dSet 7 (dLst (dCons (dCall sp_edit_error (dCons (dVar 1) (dCons (dVar 4) dNil))) (dCons (dCallK sp_edit_error [0, 1] 2 (dCons (dVar 1) (dCons (dVar 4) dNil))) dNil))))
  (dIfS (dOrT (dNotT (dTruth (dCall sp__law_like (dCons (dVar 7) (dCons (dLst (dCons (dVar 6) (dCons (dVar 6) dNil))) dNil))))) (dB (dOp (DL.rEq true) (dCB rRepr (dCons (dVar 4) dNil)) (dVar 5)))) (dRet (dC (.bl false))) dNext)))))
  (dRet (dC (.bl true))))
theorem read__law_are_errors_right : ∀ ds S R, sp__law_are_errors_right ds S R → t__law_are_errors_right { nx := fun _ S' => R .non S', rt := R } (dstart N__law_are_errors_right ds) S := by
  rintro ds S R ⟨b, c, l, e, rfl, B, he, hl, hp, ok, k⟩
  refine rd [some _, some _, some _, none, none, none, none, none] rfl ?_
  unfold t__law_are_errors_right
  walk_at "ev"
  refine forB (fun i τ S' => ∃ (x y z w v : Option D), τ = [some (.ref b), some (.str (mk l)), some (eD e), x, y, z, w, v] ∧ Bag b c S' ∧ Up (bc b c) S S') (fun τ S' => Bag b c S' ∧ Up (bc b c) S S')
    ⟨none, none, none, none, none, rfl, B, .refl⟩ (fun _ _ _ _ _ => trivial) ?_ (fun τ S' ⟨_, _, _, _, _, _, h⟩ => h) ?_
  · rintro nx N hO i d τ S1 hd hi ⟨x, y, z, w, v, rfl, B1, u1⟩ hN
    walk_at "ev"
    refine ⟨b, c, l, e, rfl, B1, he, hl, hp, ok, fun p xs S2 u2 off2 hp2 hne few hw => ?_⟩
    walk_at "ev"
    have B2 : Bag b c S2 := B1.up u2
    refine do_pickR B2 off2 hp2 (fun d hd S3 B3 u3 => ?_) ⟨hne, few⟩
    have wv : WvB b c S3 d := (hw d hd).up u3
    obtain ⟨q, sq, gq⟩ := wv
    have gr := gq.r (by omega) (by omega)
    walk_at "ev"
    refine ev_repr (sq.sn q d) gr ?_
    walk_at "ev"
    refine ⟨l, d, rfl, by omega, Wv.kv ⟨q, sq, gq⟩, ?_⟩
    walk_at "ev"
    refine ⟨l, d, rfl, by omega, Wv.kv ⟨q, sq, gq⟩, ?_⟩
    walk_at "ev"
    refine ⟨l, d, rfl, by omega, Wv.kv ⟨q, sq, gq⟩, ?_⟩
    walk_at "ev"
    intro p1 f1
    walk_at "ev"
    intro p2 f2
    walk_at "ev"
    obtain ⟨e1, e2, e3⟩ := err_pl (l := l) (d := d)
    refine like_lst (by walk_at "lku") set_same ?_ ?_ ?_ ?_
    · walk_at "pls"
    · show blks _ ≤ _
      walk_at "blk"
      omega
    · show deps _ ≤ _
      walk_at "blk"
      omega
    walk_at "ev"
    refine ev_repr (Sl.sn q d (Sl.up (N := bc b c) (Up.set f2) q d (Sl.up (Up.set f1) q d sq))) gr ?_
    walk_at "ev"
    rw [decide_eq_true rfl]
    walk_at "ev"
    exact hN _ _ ⟨_, _, _, _, _, rfl, by walk_at "bag", by walk_at "ups"⟩
  · rintro τ S1 ⟨B1, u1⟩
    walk_at "ev"
    exact k _ B1 u1

/-! items that are edits or like them -/
def PI (d : D) : Prop := plD d = true ∧ blk d ≤ 10 ∧ dep d ≤ 1
def PE (n : Nat) (ds : List D) : Prop := ds.length ≤ n ∧ ∀ d ∈ ds, PI d
theorem PE.app {n m : Nat} {a b : List D} (h : PE n a) (g : PE m b) : PE (n + m) (a ++ b) := ⟨by rw [List.length_append]; have := h.1; have := g.1; omega, fun d hd => (List.mem_append.mp hd).elim (h.2 d) (g.2 d)⟩
theorem PE.cut {n : Nat} {a : List D} {lo hi : Option Int} (h : PE n a) : PE n (cutN a lo hi) := ⟨Nat.le_trans (cut_len _ _ _) h.1, fun d hd => h.2 d (cut_mem hd)⟩
theorem PE.rev {n : Nat} {a : List D} (h : PE n a) : PE n a.reverse := ⟨by rw [List.length_reverse]; exact h.1, fun d hd => h.2 d (List.mem_reverse.mp hd)⟩
theorem PE.one {d : D} (h : PI d) : PE 1 [d] := ⟨by simp, fun x hx => by rw [List.mem_singleton] at hx; subst hx; exact h⟩
theorem PE.two {d e : D} (h : PI d) (g : PI e) : PE 2 [d, e] := (PE.one h).app (PE.one g)
theorem PE.pl {n : Nat} {a : List D} (h : PE n a) : plDs a = true := pl_all fun d hd => (h.2 d hd).1
theorem PE.blk {n : Nat} {a : List D} (h : PE n a) : blks a ≤ n * 11 := Nat.le_trans (blk_le fun d hd => (h.2 d hd).2.1) (Nat.mul_le_mul_right _ h.1)
theorem PE.dep {n : Nat} {a : List D} (h : PE n a) : deps a ≤ 1 := dep_le fun d hd => (h.2 d hd).2.2
theorem pi_tri {i j : Int} {p : List Nat} (hi : -100000000 ≤ i ∧ i ≤ 100000000) (hj : -100000000 ≤ j ∧ j ≤ 100000000) (hp : p.length ≤ 7) (ok : Ok p) : PI (.tup [.int i, .int j, .str (mk p)]) := by
  refine ⟨pl_tup (pl_cons (pl_int ⟨by omega, by omega⟩) (pl_cons (pl_int ⟨by omega, by omega⟩) (pl_cons (pl_str ok) pl_nil))), ?_, ?_⟩
  · simp only [blk_tup, blk_cons, blk_int, blk_str, blk_nil]; omega
  · simp only [dep_tup, dep_cons, dep_int, dep_str, dep_nil]; omega
section
variable {N : Addr → Prop} {S : DS} {n m : Nat} {A B : List D} {d : D}
theorem wv_pe (h : PE n A) (hn : n ≤ 20) : Wv N S 1000 6 (.tup A) :=
  wv_pl (pl_tup h.pl) (by rw [blk_tup]; have := h.blk; omega) (by rw [dep_tup]; have := h.dep; omega)
theorem wv_mid (h : PE n A) (g : PE m B) (w : Wv N S 100 4 d) (hn : n ≤ 20) (hm : m ≤ 20) : Wv N S 1000 6 (.tup (A ++ [d] ++ B)) := by
  rw [List.append_assoc]
  refine wv_among w h.pl g.pl ?_ ?_
  · have := h.blk; have := g.blk; omega
  · have := h.dep; have := g.dep; omega
theorem wv_end (h : PE n A) (w : Wv N S 100 4 d) (hn : n ≤ 20) : Wv N S 1000 6 (.tup (A ++ [d])) := by
  refine wv_among w h.pl pl_nil ?_ ?_
  · have := h.blk; rw [blk_nil]; omega
  · have := h.dep; rw [dep_nil]; omega
theorem wv_end2 {e : D} (h : PE n A) (g : PI e) (w : Wv N S 100 4 d) (hn : n ≤ 18) : Wv N S 1000 6 (.tup (A ++ [e, d])) := by
  have := wv_end (h.app (PE.one g)) w (by omega)
  rwa [List.append_assoc] at this
theorem wv_beg (h : PE n A) (w : Wv N S 100 4 d) (hn : n ≤ 20) : Wv N S 1000 6 (.tup ([d] ++ A)) := by
  refine wv_among (pre := []) w pl_nil h.pl ?_ ?_
  · have := h.blk; rw [blk_nil]; omega
  · have := h.dep; rw [dep_nil]; omega
end
theorem all_nil {P : D → Prop} : ∀ d ∈ ([] : List D), P d := fun d h => by cases h
theorem all_cons {P : D → Prop} {x : D} {l : List D} (h : P x) (g : ∀ d ∈ l, P d) : ∀ d ∈ x :: l, P d := fun d m => by
  rcases List.mem_cons.mp m with rfl | m
  · exact h
  · exact g d m
theorem all_app {P : D → Prop} {a b : List D} (h : ∀ d ∈ a, P d) (g : ∀ d ∈ b, P d) : ∀ d ∈ a ++ b, P d := fun d m => (List.mem_append.mp m).elim (h d) (g d)
theorem add_step {b c a : Addr} {S0 S : DS} {X L : List D} {R : DK} {k n : Nat} (B : Bag b c S) (u : Up (bc b c) S0 S) (h : S a = some (.lst X)) (hw : ∀ d ∈ X, Wv (bc b c) S k n d) (few : X.length ≤ 100) (fewL : L.length ≤ 10) (hL : ∀ d ∈ L, Wv (bc b c) S k n d)
    (q : ∀ q S', S' q = some (.lst (X ++ L)) → ¬ bc b c q → Bag b c S' → Up (bc b c) S0 S' → (∀ d ∈ X ++ L, Wv (bc b c) S' k n d) → Up (bc b c) S S' → R (.ref q) S') : ∀ p, Fresh S p → DL.rAdd (.ref a) (.ref p) (S.set p (.lst L)) R := by
  intro p f
  refine ev_add_rr (lk h rfl f) set_same (fun r g => ?_) (by rw [sizeLine_eq]; omega)
  have u2 : Up (bc b c) S ((S.set p (.lst L)).set r (.lst (X ++ L))) := (Up.set f).trans (Up.set g)
  exact q r _ set_same ((B.set f).off g) ((B.set f).set g) (u.trans u2) (fun d m => (List.mem_append.mp m).elim (fun m => (hw d m).up u2) fun m => (hL d m).up u2) u2
structure Eds (l : List Nat) (es : List ED) : Prop where
  srt : SrtS l 0 es
  few : es.length ≤ 6
  put : ∀ e ∈ es, e.2.2.length ≤ 5 ∧ Ok e.2.2
def sp__law_some_edits : DSp := fun ds S R => ∃ b c l es, ds = [.ref b, .str (mk l), .tup (es.map eD)] ∧ Bag b c S ∧ Eds l es ∧ l.length ≤ 12000 ∧ ∀ p xs S', Bag b c S' → Up (bc b c) S S' → ¬ bc b c p → S' p = some (.lst xs) → xs ≠ [] → xs.length < 1000000 → (∀ d ∈ xs, Wv (bc b c) S' 1000 6 d) → R (.ref p) S'
abbrev N__law_some_edits : List Str := ["bag", "text", "edits", "many", "row", "found", "at", "begin", "end", "put", "bad", "other", "ahead", "behind"]
abbrev ps__law_some_edits : List Str := ["bag", "text", "edits"]
def t__law_some_edits : DTS := (dSeq (dPar 3 4 (dCons (dCB rLen (dCons (dVar 2) dNil)) (dCons (dCB rList (dCons (dVar 2) dNil)) dNil)))
  (dSeq (dSet 5 (dLst (dCons (dVar 2) (dCons (dVar 4) (dCons (dUn rBack (dVar 2)) (dCons (dOp DL.rAdd (dVar 2) (dSlice (dVar 2) (dPart (dUn rNeg (dC (.int 1)))) dNoPart)) (dCons (dOp DL.rAdd (dSlice (dVar 2) dNoPart (dPart (dC (.int 1)))) (dVar 2)) (dCons (dC .non) (dCons (dTup dNil) (dCons (dC (.str "")) (dCons dDict0 (dCons (dC (.int 5)) (dCons (dTup (dCons (dC .non) dNil)) (dCons (dTup (dCons (dVar 2) dNil)) dNil))))))))))))))
  (dSeq (dIfS (dB (dOp rGt (dVar 3) (dC (.int 0)))) (dSeq (dSet 6 (dCall sp__law_pick (dCons (dVar 0) (dCons (dLst (dCons (dC (.int 0)) (dCons (dOp DL.rSub (dVar 3) (dC (.int 1))) (dCons (dCall sp__law_draw (dCons (dVar 0) (dCons (dVar 3) dNil))) dNil)))) dNil))))
  (dSeq (dAsg (dOp rItem (dVar 2) (dVar 6)) (dgTup 3 (dgCons (dgName 7) (dgCons (dgName 8) (dgCons (dgName 9) dgNil)))))
  (dSeq (dSet 10 (dCall sp__law_pick (dCons (dVar 0) (dCons (dCall sp__law_wrong_edits (dCons (dVar 0) (dCons (dVar 1) (dCons (dOp rItem (dVar 2) (dVar 6)) dNil)))) dNil))))
  (dSeq (dSet 11 (dCall sp__law_pick (dCons (dVar 0) (dCons (dCall sp__law_wrong_edits (dCons (dVar 0) (dCons (dVar 1) (dCons (dOp rItem (dVar 2) (dUn rNeg (dC (.int 1)))) dNil)))) dNil))))
  (dSeq (dPar 12 13 (dCons (dSlice (dVar 2) dNoPart (dPart (dVar 6))) (dCons (dSlice (dVar 2) (dPart (dOp DL.rAdd (dVar 6) (dC (.int 1)))) dNoPart) dNil)))
  (dSeq (dSet 5 (dOp DL.rAdd (dVar 5) (dLst (dCons (dOp DL.rAdd (dOp DL.rAdd (dVar 12) (dTup (dCons (dVar 10) dNil))) (dVar 13)) (dCons (dOp DL.rAdd (dSlice (dVar 2) dNoPart (dPart (dUn rNeg (dC (.int 1))))) (dTup (dCons (dVar 11) dNil))) (dCons (dOp DL.rAdd (dOp DL.rAdd (dVar 12) (dTup (dCons (dVar 10) dNil))) (dSlice (dVar 2) (dPart (dVar 6)) dNoPart)) dNil))))))
  (dSeq (dSet 5 (dOp DL.rAdd (dVar 5) (dLst (dCons (dOp DL.rAdd (dOp DL.rAdd (dVar 12) (dTup (dCons (dTup (dCons (dVar 7) (dCons (dVar 8) (dCons (dOp DL.rAdd (dVar 9) (dC (.str "a"))) dNil)))) dNil))) (dSlice (dVar 2) (dPart (dVar 6)) dNoPart)) (dCons (dOp DL.rAdd (dVar 2) (dTup (dCons (dTup (dCons (dVar 7) (dCons (dVar 7) (dCons (dC (.str "")) dNil)))) (dCons (dVar 10) dNil)))) dNil)))))
  (dSeq (dSet 5 (dOp DL.rAdd (dVar 5) (dLst (dCons (dOp DL.rAdd (dOp DL.rAdd (dVar 12) (dTup (dCons (dOp rItem (dVar 2) (dVar 6)) (dCons (dTup (dCons (dVar 8) (dCons (dVar 8) (dCons (dC (.str "x")) dNil)))) dNil)))) (dVar 13)) (dCons (dOp DL.rAdd (dTup (dCons (dVar 10) dNil)) (dUn rBack (dVar 2))) dNil)))))
  (dSeq (dSet 5 (dOp DL.rAdd (dVar 5) (dLst (dCons (dOp DL.rAdd (dOp DL.rAdd (dVar 12) (dTup (dCons (dTup (dCons (dVar 7) (dCons (dCB rLen (dCons (dVar 1) dNil)) (dCons (dC (.str "")) dNil)))) dNil))) (dVar 13)) (dCons (dOp DL.rAdd (dVar 2) (dTup (dCons (dTup (dCons (dVar 8) (dCons (dOp DL.rAdd (dVar 8) (dC (.int 1))) (dCons (dVar 9) dNil)))) dNil))) dNil)))))
  (dSeq (dSet 5 (dOp DL.rAdd (dVar 5) (dLst (dCons (dOp DL.rAdd (dVar 2) (dTup (dCons (dTup (dCons (dOp DL.rAdd (dVar 8) (dC (.int 1))) (dCons (dOp DL.rAdd (dVar 8) (dC (.int 1))) (dCons (dC (.str "")) dNil)))) dNil))) (dCons (dOp DL.rAdd (dOp DL.rAdd (dVar 12) (dTup (dCons (dTup (dCons (dVar 7) (dCons (dOp DL.rAdd (dVar 8) (dC (.int 1))) (dCons (dVar 9) dNil)))) dNil))) (dVar 13)) dNil)))))
  (dSet 5 (dOp DL.rAdd (dVar 5) (dLst (dCons (dOp DL.rAdd (dOp DL.rAdd (dVar 12) (dVar 13)) (dTup (dCons (dOp rItem (dVar 2) (dVar 6)) dNil))) (dCons (dOp DL.rAdd (dOp DL.rAdd (dVar 12) (dTup (dCons (dLst (dCons (dVar 7) (dCons (dVar 8) (dCons (dVar 9) dNil)))) dNil))) (dVar 13)) dNil))))))))))))))) dNext)
  (dRet (dVar 5)))))
theorem Eds.pe {l : List Nat} {es : List ED} (h : Eds l es) (hl : l.length ≤ 12000) : PE 6 (es.map eD) := by
  refine ⟨by rw [List.length_map]; exact h.few, fun d hd => ?_⟩
  obtain ⟨e, he, rfl⟩ := List.mem_map.mp hd
  have h1 := h.put e he
  have h2 := h.srt.ok e he
  have h3 := h2.1
  have h4 := h2.2
  exact pi_tri ⟨by omega, by omega⟩ ⟨by omega, by omega⟩ (by omega) h1.2
theorem atI_last {α : Type} {l : List α} (h : l ≠ []) : atI l (-1) = some (l.getLast h) := by
  have := List.length_pos_iff.mpr h
  rw [atI_neg _ _ (by decide) (by omega), List.getLast_eq_getElem h]
  have e : ((-1 : Int) + l.length).toNat = l.length - 1 := by omega
  rw [e, List.getElem?_eq_getElem]
theorem read__law_some_edits : ∀ ds S R, sp__law_some_edits ds S R → t__law_some_edits { nx := fun _ S' => R .non S', rt := R } (dstart N__law_some_edits ds) S := by
  rintro ds S R ⟨b, c, l, es, rfl, B, hE, hl, k⟩
  refine rd [some _, some _, some _, none, none, none, none, none, none, none, none, none, none, none] rfl ?_
  unfold t__law_some_edits
  have pe := hE.pe hl
  have pe1 := pe.cut (lo := some (-1)) (hi := none)
  have pe2 := pe.cut (lo := none) (hi := some 1)
  have lE := pe.1
  have fw := hE.few
  have l1 := pe1.1
  have l2 := pe2.1
  walk_at "lits"
  walk_at "ev"
  refine ev_list_t fun p1 f1 => ?_
  walk_at "ev"
  · rw [List.length_map]
    refine ev_dict0 fun p2 f2 => ?_
    walk_at "ev"
    intro p3 f3
    walk_at "ev"
    have wf : ∀ S', Up (bc b c) ((((S.set p1 (.lst (es.map eD))).set p2 (.dK [])))) S' → ∀ d ∈ [D.tup (es.map eD), .ref p1, .tup (es.map eD).reverse, .tup (es.map eD ++ cutN (es.map eD) (some (-1)) none), .tup (cutN (es.map eD) none (some 1) ++ es.map eD), .non, .tup [], .str (mk []), .ref p2, .int 5, .tup [.non], .tup [.tup (es.map eD)]], Wv (bc b c) S' 1000 6 d := by
      intro S' u
      have b1 := pe.blk
      have d1 := pe.dep
      refine all_cons (wv_pe pe (by omega)) (all_cons ?_ (all_cons (wv_pe pe.rev (by omega)) (all_cons (wv_pe (pe.app pe1) (by omega)) (all_cons (wv_pe (pe2.app pe) (by omega)) (all_cons ?_ (all_cons ?_ (all_cons ?_ (all_cons ?_ (all_cons ?_ (all_cons ?_ (all_cons ?_ all_nil)))))))))))
      · exact Wv.up (wv_lst (by walk_at "lku") (by walk_at "off") pe.pl (by omega) (by omega)) u
      · exact wv_pl pl_non (by walk_at "blk"; omega) (by walk_at "blk"; omega)
      · exact wv_pl (by walk_at "pls") (by walk_at "blk"; omega) (by walk_at "blk"; omega)
      · exact wv_pl (by walk_at "pls") (by walk_at "blk"; omega) (by walk_at "blk"; omega)
      · exact Wv.up (wv_dict0 (by walk_at "lku") (by walk_at "off") (by omega)) u
      · exact wv_pl (by walk_at "pls") (by walk_at "blk"; omega) (by walk_at "blk"; omega)
      · exact wv_pl (by walk_at "pls") (by walk_at "blk"; omega) (by walk_at "blk"; omega)
      · exact wv_pl (pl_tup (pl_cons (pl_tup pe.pl) pl_nil)) (by walk_at "blk"; omega) (by walk_at "blk"; omega)
    have B3 : Bag b c (((S.set p1 (.lst (es.map eD))).set p2 (.dK []))) := by walk_at "bag"
    have off3 := B3.off f3
    have u3 : Up (bc b c) S (((S.set p1 (.lst (es.map eD))).set p2 (.dK []))) := by walk_at "ups"
    have u4 := Up.set (N := bc b c) (o := .lst [D.tup (es.map eD), .ref p1, .tup (es.map eD).reverse, .tup (es.map eD ++ cutN (es.map eD) (some (-1)) none), .tup (cutN (es.map eD) none (some 1) ++ es.map eD), .non, .tup [], .str (mk []), .ref p2, .int 5, .tup [.non], .tup [.tup (es.map eD)]]) f3
    have B4 := B3.set (o := .lst [D.tup (es.map eD), .ref p1, .tup (es.map eD).reverse, .tup (es.map eD ++ cutN (es.map eD) (some (-1)) none), .tup (cutN (es.map eD) none (some 1) ++ es.map eD), .non, .tup [], .str (mk []), .ref p2, .int 5, .tup [.non], .tup [.tup (es.map eD)]]) f3
    refine br (fun h => ?_) fun h => ?_
    · simp only [decide_eq_true_eq] at h
      walk_at "ev"
      refine do_draw B4 (fun a S5 ha B5 u5 => ?_) ⟨by omega, by have := hE.few; omega⟩
      walk_at "ev"
      intro p4 f4
      walk_at "ev"
      refine do_pickN B5 f4 (fun d hd S6 B6 u6 => ?_) ⟨by simp, by simp⟩
      obtain ⟨a2, rfl, ha2⟩ : ∃ a2 : Nat, d = .int (a2 : Nat) ∧ a2 < es.length := by
        simp only [List.mem_cons, List.mem_nil_iff, or_false] at hd
        rcases hd with rfl | rfl | rfl
        · exact ⟨0, rfl, by omega⟩
        · exact ⟨es.length - 1, by rw [show ((es.length : Nat) : Int) - 1 = ((es.length - 1 : Nat) : Int) by omega], by omega⟩
        · exact ⟨a, rfl, by omega⟩
      obtain ⟨e, he⟩ : ∃ e, es[a2]? = some e := ⟨_, List.getElem?_eq_getElem ha2⟩
      have hem : e ∈ es := List.mem_of_getElem? he
      have hat : atI (es.map eD) (a2 : Int) = some (eD e) := L2.atI_nat (by rw [List.getElem?_map, he]; rfl)
      have eok := hE.srt.ok e hem
      have ep := hE.put e hem
      have hes : es ≠ [] := fun z => by rw [z] at ha2; simp at ha2
      obtain ⟨e9, he9, hat9⟩ : ∃ e9, e9 ∈ es ∧ atI (es.map eD) (-1) = some (eD e9) := ⟨_, List.getLast_mem hes, by rw [atI_last (by simpa using hes), List.getLast_map]⟩
      have eok9 := hE.srt.ok e9 he9
      have ep9 := hE.put e9 he9
      have ee1 := eok.1
      have ee2 := eok.2
      walk_at "ev"
      refine ev_it_tup hat ?_
      refine ev_gtup (ds := [.int e.1, .int e.2.1, .str (mk e.2.2)]) rfl ?_
      walk_at "ev"
      refine ev_it_tup hat ?_
      walk_at "ev"
      refine ⟨b, c, l, e, rfl, by walk_at "bag", eok, hl, ep.1, ep.2, fun q1 xs1 S7 u7 off7 hq1 ne1 few1 hw1 => ?_⟩
      walk_at "ev"
      refine do_pickR (B6.up u7) off7 hq1 (fun bad hbad S8 B8 u8 => ?_) ⟨ne1, few1⟩
      have wbad := (hw1 bad hbad).up u8
      walk_at "ev"
      refine ev_it_tup hat9 ?_
      walk_at "ev"
      refine ⟨b, c, l, e9, rfl, by walk_at "bag", eok9, hl, ep9.1, ep9.2, fun q2 xs2 S9 u9 off9 hq2 ne2 few2 hw2 => ?_⟩
      walk_at "ev"
      refine do_pickR (B8.up u9) off9 hq2 (fun oth hoth S10 B10 u10 => ?_) ⟨ne2, few2⟩
      have woth := (hw2 oth hoth).up u10
      have pA := pe.cut (lo := none) (hi := some (a2 : Int))
      have pB := pe.cut (lo := some ((a2 : Int) + 1)) (hi := none)
      have pC := pe.cut (lo := none) (hi := some (-1))
      have pD := pe.cut (lo := some (a2 : Int)) (hi := none)
      have lA := pA.1
      have lB := pB.1
      have lC := pC.1
      have lD := pD.1
      walk_at "ev"
      have hp10 : S10 p3 = some (.lst [D.tup (es.map eD), .ref p1, .tup (es.map eD).reverse, .tup (es.map eD ++ cutN (es.map eD) (some (-1)) none), .tup (cutN (es.map eD) none (some 1) ++ es.map eD), .non, .tup [], .str (mk []), .ref p2, .int 5, .tup [.non], .tup [.tup (es.map eD)]]) := by walk_at "lku"
      have wf10 := wf S10 (by walk_at "ups")
      have wbad10 : Wv (bc b c) S10 100 4 bad := wbad.up (by walk_at "ups")
      have u010 : Up (bc b c) S S10 := by walk_at "ups"
      clear wf wbad u4 B4 u5 u6 u7 u8 u9 u10 B5 B6 B8 hw1 hw2 hq1 hq2 f1 f2 f3 f4 B3 u3 pe1 pe2
      have pe0 : PI (eD e) := pe.2 _ (List.mem_map.mpr ⟨e, hem, rfl⟩)
      refine add_step B10 u010 hp10 wf10 (by simp) (by simp) (all_cons (wv_mid pA pB wbad10 (by omega) (by omega)) (all_cons (wv_end pC woth (by omega)) (all_cons (wv_mid pA pD wbad10 (by omega) (by omega)) all_nil))) (fun r1 S11 hr1 off1 B11 u11 w11 uu1 => ?_)
      clear hp10 wf10 u010
      have x1 := wbad10.up uu1
      walk_at "ev"
      refine add_step B11 u11 hr1 w11 (by simp) (by simp) (all_cons (wv_pe ((pA.app (PE.one (pi_tri ⟨by omega, by omega⟩ ⟨by omega, by omega⟩ (by rw [List.length_append]; simp; omega) (ep.2.app (by walk_at "ok"))))).app pD) (by omega)) (all_cons (wv_end2 pe (pi_tri ⟨by omega, by omega⟩ ⟨by omega, by omega⟩ (by simp) Ok.nil) x1 (by omega)) all_nil)) (fun r2 S12 hr2 off2 B12 u12 w12 uu2 => ?_)
      clear hr1 w11 u11
      have x2 := x1.up uu2
      walk_at "ev"
      refine ev_it_tup hat ?_
      walk_at "ev"
      refine add_step B12 u12 hr2 w12 (by simp) (by simp) (all_cons (wv_pe ((pA.app (PE.two pe0 (pi_tri ⟨by omega, by omega⟩ ⟨by omega, by omega⟩ (by simp) (by walk_at "ok")))).app pB) (by omega)) (all_cons (wv_beg pe.rev x2 (by omega)) all_nil)) (fun r3 S13 hr3 off3 B13 u13 w13 uu3 => ?_)
      clear hr2 w12 u12
      walk_at "ev"
      refine add_step B13 u13 hr3 w13 (by simp) (by simp) (all_cons (wv_pe ((pA.app (PE.one (pi_tri ⟨by omega, by omega⟩ ⟨by omega, by omega⟩ (by simp) Ok.nil))).app pB) (by omega)) (all_cons (wv_pe (pe.app (PE.one (pi_tri ⟨by omega, by omega⟩ ⟨by omega, by omega⟩ (by omega) ep.2))) (by omega)) all_nil)) (fun r4 S14 hr4 off4 B14 u14 w14 uu4 => ?_)
      clear hr3 w13 u13
      walk_at "ev"
      refine add_step B14 u14 hr4 w14 (by simp) (by simp) (all_cons (wv_pe (pe.app (PE.one (pi_tri ⟨by omega, by omega⟩ ⟨by omega, by omega⟩ (by simp) Ok.nil))) (by omega)) (all_cons (wv_pe ((pA.app (PE.one (pi_tri ⟨by omega, by omega⟩ ⟨by omega, by omega⟩ (by omega) ep.2))).app pB) (by omega)) all_nil)) (fun r5 S15 hr5 off5 B15 u15 w15 uu5 => ?_)
      clear hr4 w14 u14
      walk_at "ev"
      refine ev_it_tup hat ?_
      walk_at "ev"
      intro r6 f6
      walk_at "ev"
      have uf6 : ∀ o, Up (bc b c) S15 (S15.set r6 o) := fun o => Up.set f6
      have x6 : Wv (bc b c) (S15.set r6 (.lst [.int e.1, .int e.2.1, .str (mk e.2.2)])) 100 4 (.ref r6) := wv_lst set_same (B15.off f6) (pl_cons (pl_int ⟨by omega, by omega⟩) (pl_cons (pl_int ⟨by omega, by omega⟩) (pl_cons (pl_str ep.2) pl_nil))) (by walk_at "blk"; omega) (by walk_at "blk"; omega)
      refine add_step (B15.set f6) (u15.trans (uf6 _)) (lk hr5 rfl f6) (fun d m => (w15 d m).up (uf6 _)) (by simp) (by simp) (all_cons (wv_pe ((pA.app pB).app (PE.one pe0)) (by omega)) (all_cons (wv_mid pA pB x6 (by omega) (by omega)) all_nil)) (fun r7 S16 hr7 off7 B16 u16 w16 uu7 => ?_)
      walk_at "ev"
      exact k r7 _ S16 B16 u16 off7 hr7 (by simp) (by simp) w16
    · walk_at "ev"
      exact k p3 _ _ B4 (u3.trans u4) off3 set_same (by simp) (by simp) (wf _ u4)

/-! whole edits of a value without an error -/
theorem goTD_none {l : List Nat} : ∀ {eds : List ED} {k a : Nat}, (∀ e ∈ eds, EdOk l e) → goTD k (eds.map eD) = none → (∀ e, eds.head? = some e → a ≤ e.1) → Srt l a eds
  | [], _, _, _, _, _ => trivial
  | [e], _, _, h, _, ha => ⟨ha e rfl, (h e List.mem_cons_self).1, (h e List.mem_cons_self).2, trivial⟩
  | e :: f :: r, k, a, h, hg, ha => by
    have he := h e List.mem_cons_self
    have hg' : (if fstI (eD f) ≤ sndI (eD e) then some k else goTD (k + 1) ((f :: r).map eD)) = none := hg
    split at hg'
    · cases hg'
    · next hn =>
      have hn : ¬ ((f.1 : Int) ≤ (e.2.1 : Int)) := hn
      exact ⟨ha e rfl, he.1, he.2, goTD_none (fun x hx => h x (List.mem_cons_of_mem _ hx)) hg' fun x hx => by cases hx; omega⟩
theorem wv_items {N : Addr → Prop} {S : DS} {p : PyData} {es : List ED} (h : Sl N S (.tup (es.map eD)) p) (ok : okP p = true) : (∀ e ∈ es, Ok e.2.2) ∧ putsL es ≤ p.bulk ∧ es.length ≤ p.bulk := by
  cases h with
  | tup h =>
    rename_i ps
    simp only [okP] at ok
    simp only [PyData.bulk]
    induction es generalizing ps with
    | nil => exact ⟨fun e he => (by cases he), by simp [putsL], by simp⟩
    | cons e es ih =>
      cases h with
      | cons h1 h2 =>
        rename_i p1 ps
        have ok' : okP p1 = true ∧ okPs ps = true := by simpa only [okPs, Bool.and_eq_true] using ok
        obtain ⟨g1, g2, g3⟩ := ih h2 ok'.2
        have : Ok e.2.2 ∧ e.2.2.length ≤ p1.bulk := by
          unfold eD at h1
          cases h1 with
          | tup h1 =>
            cases h1 with
            | cons _ h1 =>
              cases h1 with
              | cons _ h1 =>
                cases h1 with
                | cons h1 _ =>
                  cases h1
                  simp only [okP, okPs, Bool.and_eq_true] at ok'
                  have o := ok'.1.2.2.1
                  refine ⟨?_, ?_⟩
                  · intro c hc
                    unfold PySem.PyData.strOk at o
                    rw [Array.all_eq_true'] at o
                    have := o c (by simpa [mk] using hc)
                    simpa using this
                  · simp only [PyData.bulk, PyData.bulkAll, mk]
                    simp
                    omega
        refine ⟨fun x hx => ?_, ?_, ?_⟩
        · rcases List.mem_cons.mp hx with rfl | hx
          · exact this.1
          · exact g1 x hx
        · simp only [putsL, List.map_cons, List.sum_cons, PyData.bulkAll] at *
          omega
        · simp only [List.length_cons, PyData.bulkAll]
          omega
theorem errs_none {l : List Nat} {d : D} {N : Addr → Prop} {S : DS} {k n : Nat} (h : errsD l d = .non) (w : Wv N S k n d) (hl : l.length ≤ 100000) (hk : k ≤ 100000) : ∃ es : List ED, d = .tup (es.map eD) ∧ EdsOk l es ∧ ∀ e ∈ es, Ok e.2.2 := by
  cases d with
  | tup ds =>
    cases he : goErr l 0 ds with
    | some x =>
      rw [errsD_some he] at h
      subst h
      exfalso
      have : ∀ (ds : List D) (k : Nat), goErr l k ds ≠ some .non := by
        intro ds
        induction ds with
        | nil => intro k q; cases q
        | cons a ds ih =>
          intro k q
          rw [goErr_cons] at q
          split at q
          · exact ih _ q
          · cases q
      exact this _ _ he
    | none =>
      obtain ⟨es, rfl, hok⟩ := goErr_ok he
      cases ht : goTD 1 (es.map eD) with
      | some j =>
        rw [errsD_tch he ht] at h
        cases h
      | none =>
        obtain ⟨p, hp, g⟩ := w
        obtain ⟨o1, o2, o3⟩ := wv_items hp g.ok
        have := g.few
        exact ⟨es, rfl, ⟨goTD_none hok ht fun _ _ => Nat.zero_le _, hl, by omega⟩, o1⟩
  | _ => cases h
theorem goErr_some {l : List Nat} {x : D} : ∀ {ds : List D} {k : Nat}, goErr l k ds = some x → ∃ (j : Nat) (e : D), x = .tup [.str "edit", .int (j : Int), errD l e] ∧ j < k + ds.length
  | [], _, h => by cases h
  | e :: ds, k, h => by
    rw [goErr_cons] at h
    split at h
    · obtain ⟨j, e', h1, h2⟩ := goErr_some h
      exact ⟨j, e', h1, by rw [List.length_cons]; omega⟩
    · cases h
      exact ⟨k, e, rfl, by rw [List.length_cons]; omega⟩
theorem goTD_some {j : Nat} : ∀ {ds : List D} {k : Nat}, goTD k ds = some j → j < k + ds.length
  | [], _, h => by cases h
  | [_], _, h => by cases h
  | x :: y :: r, k, h => by
    rw [goTD_cons] at h
    split at h
    · cases h; simp
    · have := goTD_some h
      simp only [List.length_cons] at *
      omega
theorem errs_pl {l : List Nat} {d : D} (few : ∀ es, d = .tup es → es.length ≤ 1000) : plD (errsD l d) = true ∧ blk (errsD l d) ≤ 20 ∧ dep (errsD l d) ≤ 1 := by
  have e0 : blk (D.str (Str.ofString "form")) = 4 := by rw [lit_0, blk_str]; rfl
  have e1 : blk (D.str (Str.ofString "edit")) = 4 := by rw [lit_4, blk_str]; rfl
  have e2 : blk (D.str (Str.ofString "touch")) = 5 := by rw [lit_5, blk_str]; rfl
  cases ht : isT d with
  | false => rw [errsD_off ht]; exact ⟨pl_lit _, by omega, by rw [dep_str]; omega⟩
  | true =>
    obtain ⟨es, rfl⟩ := isT_of ht
    have few := few es rfl
    cases he : goErr l 0 es with
    | some x =>
      rw [errsD_some he]
      obtain ⟨j, e, rfl, hj⟩ := goErr_some he
      obtain ⟨g1, g2, g3⟩ := err_pl (l := l) (d := e)
      refine ⟨pl_tup (pl_cons (pl_lit _) (pl_cons (pl_int ⟨by omega, by omega⟩) (pl_cons g1 pl_nil))), ?_, ?_⟩
      · simp only [blk_tup, blk_cons, blk_int, blk_nil]; omega
      · simp only [dep_tup, dep_cons, dep_int, dep_nil, dep_str]; omega
    | none =>
      cases ht : goTD 1 es with
      | some j =>
        rw [errsD_tch he ht]
        have := goTD_some ht
        refine ⟨pl_tup (pl_cons (pl_lit _) (pl_cons (pl_int ⟨by omega, by omega⟩) pl_nil)), ?_, ?_⟩
        · simp only [blk_tup, blk_cons, blk_int, blk_nil]; omega
        · simp only [dep_tup, dep_cons, dep_int, dep_nil, dep_str]; omega
      | none => rw [errsD_non he ht]; exact ⟨rfl, by rw [blk_non]; omega, by rw [dep_non]; omega⟩
theorem goErr_fine {l : List Nat} : ∀ {es : List ED} {k : Nat}, (∀ e ∈ es, EdOk l e) → goErr l k (es.map eD) = none
  | [], _, _ => rfl
  | e :: es, k, h => by
    rw [List.map_cons, goErr_cons, err_eD (h e List.mem_cons_self)]
    exact goErr_fine fun x hx => h x (List.mem_cons_of_mem _ hx)
theorem goTD_fine {l : List Nat} : ∀ {es : List ED} {k a : Nat}, SrtS l a es → goTD k (es.map eD) = none
  | [], _, _, _ => rfl
  | [_], _, _, _ => rfl
  | e :: f :: r, k, a, ⟨h1, h2, h3, h4⟩ => by
    rw [List.map_cons, List.map_cons, goTD_cons]
    have := h4.1
    rw [if_neg (by show ¬ ((f.1 : Int) ≤ (e.2.1 : Int)); omega)]
    exact goTD_fine h4
theorem kv2_eds {S : DS} {es : List ED} : Kv2 S (.tup (es.map eD)) := ⟨⟨_, .tup⟩, fun ds h e he => by
  cases h
  obtain ⟨x, _, rfl⟩ := List.mem_map.mp he
  exact kv_eD⟩
theorem Wv.few {N : Addr → Prop} {S : DS} {k n : Nat} {d : D} (w : Wv N S k n d) (es : List D) (h : d = .tup es) : es.length ≤ k := by
  subst h
  obtain ⟨p, h, g⟩ := w
  cases h with
  | tup h =>
    rename_i ps
    have := g.few
    simp only [PyData.bulk] at this
    have e : ∀ (es : List D) (ps : List PyData), SlA N S es ps → es.length ≤ PyData.bulkAll ps := by
      intro es
      induction es with
      | nil => intro ps _; simp
      | cons x es ih =>
        intro ps h
        cases h with
        | cons h r =>
          have := ih _ r
          simp only [List.length_cons, PyData.bulkAll]
          omega
    have := e _ _ h
    omega
def sp__law_are_edits_right : DSp := fun ds S R => ∃ b c l, ds = [.ref b, .str (mk l)] ∧ Bag b c S ∧ l.length ≤ 12000 ∧ Ok l ∧ ∀ S', Bag b c S' → Up (bc b c) S S' → R (.bl true) S'
abbrev N__law_are_edits_right : List Str := ["bag", "text", "edits", "done", "kept", "both", "turn", "value", "due"]
abbrev ps__law_are_edits_right : List Str := ["bag", "text"]
def t__law_are_edits_right : DTS := (dSeq (dSet 2 (dCall sp__law_edits (dCons (dVar 0) (dCons (dVar 1) dNil))))
  (dSeq (dPar 3 4 (dCons (dCall sp__law_done (dCons (dVar 1) (dCons (dVar 2) dNil))) (dCons (dCB rRepr (dCons (dVar 2) dNil)) dNil)))
  (dSeq (dSet 5 (dLst (dCons (dCall sp_edits_done (dCons (dVar 1) (dCons (dVar 2) dNil))) (dCons (dCallK sp_edits_done [0, 1] 2 (dCons (dVar 1) (dCons (dVar 2) dNil))) (dCons (dCall sp_edits_error (dCons (dVar 1) (dCons (dVar 2) dNil))) dNil)))))
  (dSeq (dIfS (dOrT (dNotT (dTruth (dCall sp__law_like (dCons (dVar 5) (dCons (dLst (dCons (dVar 3) (dCons (dVar 3) (dCons (dC .non) dNil)))) dNil))))) (dB (dOp (DL.rEq true) (dCB rRepr (dCons (dVar 2) dNil)) (dVar 4)))) (dRet (dC (.bl false))) dNext)
  (dSeq (dFor (dRng1 (dCons (dC (.int 8)) dNil)) (dgName 6) (dSeq (dSet 7 (dCall sp__law_pick (dCons (dVar 0) (dCons (dCall sp__law_some_edits (dCons (dVar 0) (dCons (dVar 1) (dCons (dVar 2) dNil)))) dNil))))
  (dSeq (dPar 4 8 (dCons (dCB rRepr (dCons (dVar 7) dNil)) (dCons (dCall sp__law_edits_due (dCons (dVar 1) (dCons (dVar 7) dNil))) dNil)))
  (dSeq (dSet 5 (dLst (dCons (dCall sp_edits_error (dCons (dVar 1) (dCons (dVar 7) dNil))) (dCons (dCallK sp_edits_error [0, 1] 2 (dCons (dVar 1) (dCons (dVar 7) dNil))) dNil))))
  (dSeq (dIfS (dOrT (dNotT (dTruth (dCall sp__law_like (dCons (dVar 5) (dCons (dLst (dCons (dVar 8) (dCons (dVar 8) dNil))) dNil))))) (dB (dOp (DL.rEq true) (dCB rRepr (dCons (dVar 7) dNil)) (dVar 4)))) (dRet (dC (.bl false))) dNext)
  (dIfS (dAndT (dB (dOp rIsN (dVar 8) (dC .non))) (dNotT (dTruth (dCall sp__law_like (dCons (dCall sp_edits_done (dCons (dVar 1) (dCons (dVar 7) dNil))) (dCons (dCall sp__law_done (dCons (dVar 1) (dCons (dVar 7) dNil))) dNil)))))) (dRet (dC (.bl false))) dNext))))))
  (dRet (dC (.bl true))))))))
theorem read__law_are_edits_right : ∀ ds S R, sp__law_are_edits_right ds S R → t__law_are_edits_right { nx := fun _ S' => R .non S', rt := R } (dstart N__law_are_edits_right ds) S := by
  rintro ds S R ⟨b, c, l, rfl, B, hl, ok, k⟩
  refine rd [some _, some _, none, none, none, none, none, none, none] rfl ?_
  unfold t__law_are_edits_right
  walk_at "ev"
  refine ⟨b, c, l, rfl, B, by omega, ok, fun es S1 hs h6 h5 B1 u1 => ?_⟩
  have hE : Eds l es := ⟨hs, h6, h5⟩
  have pe := hE.pe hl
  have eo := EdsOk.of hs h6 h5 (show l.length ≤ 100000 by omega)
  have wv : Wv (bc b c) S1 1000 6 (.tup (es.map eD)) := wv_pe pe (by omega)
  obtain ⟨q, sq, gq⟩ := wv
  have gr := gq.r (by omega) (by omega)
  have lb := doneL_len eo.1.srt
  have okd : Ok (doneL l 0 es) := doneL_ok ok fun e he => (h5 e he).2
  walk_at "ev"
  refine ⟨l, es, _, rfl, .inl rfl, eo.1, ?_⟩
  walk_at "ev"
  refine ev_repr (sq.sn q _) gr ?_
  walk_at "ev"
  refine ⟨l, es, rfl, eo.1, ?_⟩
  walk_at "ev"
  refine ⟨l, es, rfl, eo.1, ?_⟩
  walk_at "ev"
  refine ⟨l, _, rfl, by omega, kv2_eds, fun xs hx => by cases hx; rw [List.length_map]; omega, ?_⟩
  rw [errsD_non (goErr_fine hs.ok) (goTD_fine hs)]
  walk_at "ev"
  intro p1 f1
  walk_at "ev"
  intro p2 f2
  walk_at "ev"
  refine like_lst (by walk_at "lku") set_same ?_ ?_ ?_ ?_
  · walk_at "pls"
  · show blks _ ≤ _
    walk_at "blk"
    omega
  · show deps _ ≤ _
    walk_at "blk"
    omega
  walk_at "ev"
  refine ev_repr (Sl.sn q _ (Sl.up (N := bc b c) (Up.set f2) q _ (Sl.up (Up.set f1) q _ sq))) gr ?_
  walk_at "ev"
  rw [decide_eq_true rfl]
  walk_at "ev"
  refine forB (fun i τ S' => ∃ (kp fv sv tv ov : Option D), τ = [some (.ref b), some (.str (mk l)), some (.tup (es.map eD)), some (.str (mk (doneL l 0 es))), kp, fv, sv, tv, ov] ∧ Bag b c S' ∧ Up (bc b c) S S') (fun τ S' => Bag b c S' ∧ Up (bc b c) S S')
    ⟨_, _, none, none, none, rfl, by walk_at "bag", by walk_at "ups"⟩ (fun _ _ _ _ _ => trivial) ?_ (fun τ S' ⟨_, _, _, _, _, _, h⟩ => h) ?_
  · clear sq gq gr q f1 f2 B1 u1
    rintro nx N hO i d τ S1 hd hi ⟨x, y, z, w, v, rfl, B1, u1⟩ hN
    walk_at "ev"
    refine ⟨b, c, l, es, rfl, B1, hE, hl, fun p xs S3 B3 u3 off3 hp3 hne few hw => ?_⟩
    walk_at "ev"
    refine do_pickR B3 off3 hp3 (fun d hd S4 B4 u4 => ?_) ⟨hne, few⟩
    have wv := (hw d hd).up u4
    obtain ⟨q, sq, gq⟩ := wv
    have gr := gq.r (by omega) (by omega)
    have kv : Kv2 S4 d := Wv.kv2 ⟨q, sq, gq⟩
    have fe : ∀ es, d = .tup es → es.length ≤ 1000 := Wv.few ⟨q, sq, gq⟩
    walk_at "ev"
    refine ev_repr (sq.sn q d) gr ?_
    walk_at "ev"
    refine ⟨l, d, rfl, by omega, kv, fe, ?_⟩
    walk_at "ev"
    refine ⟨l, d, rfl, by omega, kv, fe, ?_⟩
    walk_at "ev"
    refine ⟨l, d, rfl, by omega, kv, fe, ?_⟩
    walk_at "ev"
    intro p1 f1
    walk_at "ev"
    intro p2 f2
    walk_at "ev"
    obtain ⟨e1, e2, e3⟩ := errs_pl (l := l) fe
    refine like_lst (by walk_at "lku") set_same ?_ ?_ ?_ ?_
    · walk_at "pls"
    · show blks _ ≤ _
      walk_at "blk"
      omega
    · show deps _ ≤ _
      walk_at "blk"
      omega
    walk_at "ev"
    refine ev_repr (Sl.sn q d (Sl.up (N := bc b c) (Up.set f2) q d (Sl.up (Up.set f1) q d sq))) gr ?_
    walk_at "ev"
    rw [decide_eq_true rfl]
    walk_at "ev"
    refine br (fun h => ?_) fun h => ?_
    · have hn : errsD l d = .non := by
        cases hx : errsD l d <;> rw [hx] at h <;> first | rfl | cases h
      obtain ⟨es2, rfl, eo2, ok2⟩ := errs_none hn ⟨q, sq, gq⟩ (by omega) (by omega)
      have lb2 := doneL_len eo2.srt
      have := eo2.puts
      walk_at "ev"
      refine ⟨l, es2, rfl, eo2, ?_⟩
      walk_at "ev"
      refine ⟨l, es2, _, rfl, .inl rfl, eo2, ?_⟩
      walk_at "ev"
      refine like_pl (pl_str (doneL_ok ok ok2)) (by show blk _ ≤ _; rw [blk_str]; omega) (by show dep _ ≤ _; rw [dep_str]; omega) ?_
      walk_at "ev"
      exact hN _ _ ⟨_, _, _, _, _, rfl, by walk_at "bag", by walk_at "ups"⟩
    · walk_at "ev"
      exact hN _ _ ⟨_, _, _, _, _, rfl, by walk_at "bag", by walk_at "ups"⟩
  · rintro τ S1 ⟨B1, u1⟩
    walk_at "ev"
    exact k _ B1 u1

theorem merge {t : DTS} {nx bk ct : DSt → DS → Prop} {rt : DK} {τ : DSt} {S : DS} (Out : DSt → DS → Prop) (h1 : ∀ nx' : DSt → DS → Prop, (∀ τ S, Out τ S → nx' τ S) → t ⟨nx', rt, bk, ct⟩ τ S) (h2 : ∀ τ S, Out τ S → nx τ S) : t ⟨nx, rt, bk, ct⟩ τ S := h1 nx h2
theorem ev_mul_r {S : DS} {R : DK} {a : Addr} {ds : List D} {k : Int} (h : S a = some (.lst ds)) (q : ∀ p, Fresh S p → R (.ref p) (S.set p (.lst (List.replicate k.toNat ds).flatten))) (n : (0 ≤ k ∧ k ≤ 1000) ∧ ds.length ≤ 1000) : DL.rMul (.ref a) (.int k) S R := by
  refine ⟨ds, h, by omega, by omega, ?_, q⟩
  have : ds.length * k.toNat ≤ 1000 * 1000 := Nat.mul_le_mul n.2 (by omega)
  rw [sizeLine_eq]; omega
def sp__law_are_touches_right : DSp := fun ds S R => ∃ b c l, ds = [.ref b, .str (mk l)] ∧ Bag b c S ∧ l.length ≤ 12000 ∧ Ok l ∧ ∀ S', Bag b c S' → Up (bc b c) S S' → R (.bl true) S'
abbrev N__law_are_touches_right : List Str := ["bag", "text", "many", "turn", "one", "begin", "end", "some", "other", "due", "told"]
abbrev ps__law_are_touches_right : List Str := ["bag", "text"]
def t__law_are_touches_right : DTS := (dSeq (dSet 2 (dCB rLen (dCons (dVar 1) dNil)))
  (dSeq (dFor (dRng1 (dCons (dC (.int 6)) dNil)) (dgName 3) (dSeq (dSet 4 (dCall sp__law_edit (dCons (dVar 0) (dCons (dVar 1) dNil))))
  (dSeq (dPar 5 6 (dCons (dOp rItem (dVar 4) (dC (.int 0))) (dCons (dOp rItem (dVar 4) (dC (.int 1))) dNil)))
  (dSeq (dSet 7 (dLst (dCons (dCall sp__law_edit (dCons (dVar 0) (dCons (dVar 1) dNil))) (dCons (dVar 4) (dCons (dTup (dCons (dVar 5) (dCons (dVar 5) (dCons (dC (.str "y")) dNil)))) (dCons (dTup (dCons (dVar 6) (dCons (dVar 6) (dCons (dC (.str "")) dNil)))) (dCons (dTup (dCons (dVar 6) (dCons (dVar 2) (dCons (dC (.str "z")) dNil)))) (dCons (dTup (dCons (dC (.int 0)) (dCons (dVar 5) (dCons (dC (.str "")) dNil)))) dNil))))))))
  (dSeq (dIfS (dB (dOp rLt (dVar 6) (dVar 2))) (dSet 7 (dOp DL.rAdd (dVar 7) (dOp DL.rMul (dLst (dCons (dTup (dCons (dOp DL.rAdd (dVar 6) (dC (.int 1))) (dCons (dOp DL.rAdd (dVar 6) (dC (.int 1))) (dCons (dC (.str "")) dNil)))) (dCons (dTup (dCons (dOp DL.rAdd (dVar 6) (dC (.int 1))) (dCons (dVar 2) (dCons (dC (.str "q")) dNil)))) (dCons (dTup (dCons (dVar 5) (dCons (dOp DL.rAdd (dVar 6) (dC (.int 1))) (dCons (dC (.str "")) dNil)))) dNil)))) (dC (.int 2))))) dNext)
  (dSeq (dIfS (dB (dOp rGt (dVar 5) (dC (.int 0)))) (dSet 7 (dOp DL.rAdd (dVar 7) (dOp DL.rMul (dLst (dCons (dTup (dCons (dOp DL.rSub (dVar 5) (dC (.int 1))) (dCons (dOp DL.rSub (dVar 5) (dC (.int 1))) (dCons (dC (.str "a")) dNil)))) (dCons (dTup (dCons (dC (.int 0)) (dCons (dOp DL.rSub (dVar 5) (dC (.int 1))) (dCons (dC (.str "")) dNil)))) (dCons (dTup (dCons (dOp DL.rSub (dVar 5) (dC (.int 1))) (dCons (dVar 6) (dCons (dC (.str "")) dNil)))) dNil)))) (dC (.int 2))))) dNext)
  (dSeq (dSet 8 (dCall sp__law_pick (dCons (dVar 0) (dCons (dVar 7) dNil))))
  (dSeq (dSet 9 (dCall sp__law_do_touch (dCons (dVar 4) (dCons (dVar 8) dNil))))
  (dSeq (dSet 10 (dLst (dCons (dCall sp_do_touch (dCons (dVar 4) (dCons (dVar 8) dNil))) (dCons (dCall sp_do_touch (dCons (dVar 8) (dCons (dVar 4) dNil))) (dCons (dCallK sp_do_touch [0, 1] 2 (dCons (dVar 4) (dCons (dVar 8) dNil))) (dCons (dCall sp_do_touch (dCons (dVar 4) (dCons (dVar 4) dNil))) dNil))))))
  (dIfS (dNotT (dTruth (dCall sp__law_like (dCons (dVar 10) (dCons (dLst (dCons (dVar 9) (dCons (dVar 9) (dCons (dVar 9) (dCons (dC (.bl true)) dNil))))) dNil))))) (dRet (dC (.bl false))) dNext))))))))))
  (dRet (dC (.bl true)))))
theorem read__law_are_touches_right : ∀ ds S R, sp__law_are_touches_right ds S R → t__law_are_touches_right { nx := fun _ S' => R .non S', rt := R } (dstart N__law_are_touches_right ds) S := by
  rintro ds S R ⟨b, c, l, rfl, B, hl, ok, k⟩
  refine rd [some _, some _, none, none, none, none, none, none, none, none, none] rfl ?_
  unfold t__law_are_touches_right
  walk_at "lits"
  walk_at "ev"
  refine forB (fun i τ S' => ∃ (x1 x2 x3 x4 x5 x6 x7 x8 : Option D), τ = [some (.ref b), some (.str (mk l)), some (.int (l.length : Nat)), x1, x2, x3, x4, x5, x6, x7, x8] ∧ Bag b c S' ∧ Up (bc b c) S S') (fun τ S' => Bag b c S' ∧ Up (bc b c) S S')
    ⟨none, none, none, none, none, none, none, none, rfl, B, .refl⟩ (fun _ _ _ _ _ => trivial) ?_ (fun τ S' ⟨_, _, _, _, _, _, _, _, _, h⟩ => h) ?_
  · rintro nx N hO i d τ S1 hd hi ⟨x1, x2, x3, x4, x5, x6, x7, x8, rfl, B1, u1⟩ hN
    walk_at "ev"
    refine ⟨b, c, l, rfl, B1, by omega, ok, fun e S2 he h5 ok5 B2 u2 => ?_⟩
    have ee : eD e = .tup [.int e.1, .int e.2.1, .str (mk e.2.2)] := rfl
    rw [ee]
    walk_at "ev"
    rw [← ee]
    refine ⟨b, c, l, rfl, B2, by omega, ok, fun f S3 hf f5 okf B3 u3 => ?_⟩
    walk_at "evn"
    intro p hp
    walk_at "evn"
    have he1 := he.1
    have he2 := he.2
    refine merge (fun τ S' => ∃ (r : Addr) (X : List D) (x8 x9 x10 : Option D), τ = [some (.ref b), some (.str (mk l)), some (.int (l.length : Nat)), some d, some (eD e), some (.int e.1), some (.int e.2.1), some (.ref r), x8, x9, x10] ∧ S' r = some (.lst X) ∧ X ≠ [] ∧ X.length ≤ 20 ∧ (∀ d ∈ X, ∃ f : ED, d = eD f) ∧ ¬ bc b c r ∧ Bag b c S' ∧ Up (bc b c) S S') (fun nx' hO' => ?_) ?_
    · have base : ∀ d ∈ [eD f, eD e, .tup [.int e.1, .int e.1, .str (mk [121])], .tup [.int e.2.1, .int e.2.1, .str (mk [])], .tup [.int e.2.1, .int l.length, .str (mk [122])], .tup [.int 0, .int e.1, .str (mk [])]], ∃ f : ED, d = eD f :=
        all_cons ⟨_, rfl⟩ (all_cons ⟨_, rfl⟩ (all_cons ⟨(e.1, e.1, _), rfl⟩ (all_cons ⟨(e.2.1, e.2.1, []), rfl⟩ (all_cons ⟨(e.2.1, l.length, _), rfl⟩ (all_cons ⟨(0, e.1, []), rfl⟩ all_nil)))))
      walk_at "ev"
      refine br (fun h => ?_) fun h => ?_
      · walk_at "ev"
        intro p1 f1
        walk_at "ev"
        refine ev_mul_r set_same (fun p2 f2 => ?_) ⟨by omega, by simp⟩
        refine ev_add_rr (by walk_at "lku") set_same (fun p3 f3 => ?_) (by rw [sizeLine_eq]; simp)
        walk_at "ev"
        refine hO' _ _ ⟨p3, _, _, _, _, rfl, set_same, by simp, by simp, ?_, by walk_at "off", by walk_at "bag", by walk_at "ups"⟩
        have e1 : (e.2.1 : Int) + 1 = ((e.2.1 + 1 : Nat) : Int) := by omega
        refine all_app base ?_
        rw [e1]
        intro d hd
        obtain ⟨L, hL, hd⟩ := List.mem_flatten.mp hd
        rw [List.eq_of_mem_replicate hL] at hd
        exact all_cons (P := fun d => ∃ f : ED, d = eD f) ⟨(e.2.1 + 1, e.2.1 + 1, []), rfl⟩ (all_cons ⟨(e.2.1 + 1, l.length, _), rfl⟩ (all_cons ⟨(e.1, e.2.1 + 1, []), rfl⟩ all_nil)) d hd
      · walk_at "ev"
        exact hO' _ _ ⟨p, _, _, _, _, rfl, set_same, by simp, by simp, base, by walk_at "off", by walk_at "bag", by walk_at "ups"⟩
    · rintro τ S4 ⟨r, X, x8, x9, x10, rfl, hr, hX, lX, aX, off4, B4, u4⟩
      clear hp B3 u3 B2 u2 B1 u1
      walk_at "evn"
      refine merge (fun τ S' => ∃ (r : Addr) (X : List D) (x8 x9 x10 : Option D), τ = [some (.ref b), some (.str (mk l)), some (.int (l.length : Nat)), some d, some (eD e), some (.int e.1), some (.int e.2.1), some (.ref r), x8, x9, x10] ∧ S' r = some (.lst X) ∧ X ≠ [] ∧ X.length ≤ 50 ∧ (∀ d ∈ X, ∃ f : ED, d = eD f) ∧ ¬ bc b c r ∧ Bag b c S' ∧ Up (bc b c) S S') (fun nx' hO' => ?_) ?_
      · walk_at "ev"
        refine br (fun h => ?_) fun h => ?_
        · simp only [decide_eq_true_eq] at h
          walk_at "ev"
          intro p1 f1
          walk_at "ev"
          refine ev_mul_r set_same (fun p2 f2 => ?_) ⟨by omega, by simp⟩
          refine ev_add_rr (by walk_at "lku") set_same (fun p3 f3 => ?_) (by rw [sizeLine_eq]; simp; omega)
          walk_at "ev"
          refine hO' _ _ ⟨p3, _, _, _, _, rfl, set_same, by simp [hX], by simp; omega, ?_, by walk_at "off", by walk_at "bag", by walk_at "ups"⟩
          have e1 : (e.1 : Int) - 1 = ((e.1 - 1 : Nat) : Int) := by omega
          refine all_app aX ?_
          rw [e1]
          intro d hd
          obtain ⟨L, hL, hd⟩ := List.mem_flatten.mp hd
          rw [List.eq_of_mem_replicate hL] at hd
          exact all_cons (P := fun d => ∃ f : ED, d = eD f) ⟨(e.1 - 1, e.1 - 1, _), rfl⟩ (all_cons ⟨(0, e.1 - 1, []), rfl⟩ (all_cons ⟨(e.1 - 1, e.2.1, []), rfl⟩ all_nil)) d hd
        · walk_at "ev"
          exact hO' _ _ ⟨r, X, _, _, _, rfl, hr, hX, by omega, aX, off4, B4, u4⟩
      · clear hr hX lX aX off4 B4 u4 x8 x9 x10 r X S4
        rintro τ S4 ⟨r, X, x8, x9, x10, rfl, hr, hX, lX, aX, off4, B4, u4⟩
        walk_at "ev"
        refine do_pickR B4 off4 hr (fun g hg S5 B5 u5 => ?_) ⟨hX, by omega⟩
        obtain ⟨f, rfl⟩ := aX g hg
        walk_at "ev"
        refine ⟨e, f, rfl, ?_⟩
        walk_at "ev"
        refine ⟨e, f, rfl, ?_⟩
        walk_at "ev"
        refine ⟨f, e, rfl, ?_⟩
        walk_at "ev"
        refine ⟨e, f, rfl, ?_⟩
        walk_at "ev"
        refine ⟨e, e, rfl, ?_⟩
        walk_at "ev"
        intro p1 f1
        walk_at "ev"
        intro p2 f2
        walk_at "ev"
        have q1 : decide (e.1 ≤ f.2.1 ∧ f.1 ≤ e.2.1) = decide (f.1 ≤ e.2.1 ∧ e.1 ≤ f.2.1) := by rw [Bool.eq_iff_iff]; simp; omega
        have q2 : decide (e.1 ≤ e.2.1 ∧ e.1 ≤ e.2.1) = true := by simp; omega
        simp only [q1, q2] at f2 ⊢
        refine like_lst (by walk_at "lku") set_same ?_ ?_ ?_ ?_
        · walk_at "pls"
        · show blks _ ≤ _
          walk_at "blk"
          omega
        · show deps _ ≤ _
          walk_at "blk"
          omega
        walk_at "ev"
        exact hN _ _ ⟨_, _, _, _, _, _, _, _, rfl, by walk_at "bag", by walk_at "ups"⟩
  · rintro τ S1 ⟨B1, u1⟩
    walk_at "ev"
    exact k _ B1 u1

def sp__law_is_typed_right : DSp := fun ds S R => ds = [] ∧ ∀ S', Up noA S S' → R (.bl true) S'
abbrev N__law_is_typed_right : List Str := ["said", "edits", "told", "due"]
abbrev ps__law_is_typed_right : List Str := []
def t__law_is_typed_right : DTS := (dSeq (dAsg (dTup (dCons (dC (.str "give w over 2")) (dCons (dTup (dCons (dTup (dCons (dC (.int 0)) (dCons (dC (.int 4)) (dCons (dC (.str "let x =")) dNil)))) (dCons (dTup (dCons (dC (.int 5)) (dCons (dC (.int 6)) (dCons (dC (.str "(w)")) dNil)))) (dCons (dTup (dCons (dC (.int 12)) (dCons (dC (.int 13)) (dCons (dC (.str "")) dNil)))) dNil)))) dNil))) (dgTup 2 (dgCons (dgName 0) (dgCons (dgName 1) dgNil))))
  (dSeq (dSet 2 (dLst (dCons (dCall sp_edit_done (dCons (dVar 0) (dCons (dTup (dCons (dC (.int 12)) (dCons (dC (.int 13)) (dCons (dC (.str "4")) dNil)))) dNil))) (dCons (dCall sp_edit_back (dCons (dVar 0) (dCons (dTup (dCons (dC (.int 12)) (dCons (dC (.int 13)) (dCons (dC (.str "24")) dNil)))) dNil))) (dCons (dCall sp_edit_between (dCons (dVar 0) (dCons (dC (.str "give w over 4")) dNil))) dNil)))))
  (dSeq (dSet 2 (dOp DL.rAdd (dVar 2) (dLst (dCons (dCall sp_edit_between (dCons (dC (.str "aaa")) (dCons (dC (.str "aa")) dNil))) (dCons (dCall sp_edit_between (dCons (dVar 0) (dCons (dVar 0) dNil))) (dCons (dCall sp_edit_between (dCons (dC (.str "abab")) (dCons (dC (.str "ab")) dNil))) dNil))))))
  (dSeq (dSet 2 (dOp DL.rAdd (dVar 2) (dLst (dCons (dCall sp_edit_between (dCons (dC (.str "")) (dCons (dC (.str "x")) dNil))) (dCons (dCall sp_edit_between (dCons (dC (.str "aa")) (dCons (dC (.str "aaa")) dNil))) (dCons (dCall sp_edit_between (dCons (dC (.str "abcab")) (dCons (dC (.str "abxab")) dNil))) dNil))))))
  (dSeq (dSet 2 (dOp DL.rAdd (dVar 2) (dLst (dCons (dCall sp_edit_between (dCons (dC (.str "aba")) (dCons (dC (.str "ababa")) dNil))) (dCons (dCall sp_edits_done (dCons (dVar 0) (dCons (dVar 1) dNil))) (dCons (dCall sp_edits_done (dCons (dC (.str "")) (dCons (dTup dNil) dNil))) dNil))))))
  (dSeq (dSet 2 (dOp DL.rAdd (dVar 2) (dLst (dCons (dCall sp_edits_error (dCons (dVar 0) (dCons (dUn rBack (dVar 1)) dNil))) dNil))))
  (dSeq (dSet 2 (dOp DL.rAdd (dVar 2) (dLst (dCons (dCall sp_edits_error (dCons (dVar 0) (dCons (dTup (dCons (dTup (dCons (dC (.int 0)) (dCons (dC (.int 4)) (dCons (dC (.str "")) dNil)))) (dCons (dTup (dCons (dC (.int 4)) (dCons (dC (.int 6)) (dCons (dC (.str "")) dNil)))) dNil))) dNil))) (dCons (dCall sp_edits_error (dCons (dVar 0) (dCons (dTup (dCons (dTup (dCons (dC (.int 0)) (dCons (dC (.int 4)) (dCons (dC (.str "")) dNil)))) (dCons (dTup (dCons (dC (.int 5)) (dCons (dC (.int 5)) (dCons (dC (.str "")) dNil)))) dNil))) dNil))) dNil)))))
  (dSeq (dSet 2 (dOp DL.rAdd (dVar 2) (dLst (dCons (dCall sp_edits_error (dCons (dVar 0) (dCons (dTup (dCons (dTup (dCons (dC (.int 0)) (dCons (dC (.int 4)) (dCons (dC (.str "")) dNil)))) (dCons (dTup (dCons (dC (.int 4)) (dCons (dC (.int 99)) (dCons (dC (.str "")) dNil)))) dNil))) dNil))) (dCons (dCall sp_do_touch (dCons (dTup (dCons (dC (.int 0)) (dCons (dC (.int 4)) (dCons (dC (.str "")) dNil)))) (dCons (dTup (dCons (dC (.int 4)) (dCons (dC (.int 6)) (dCons (dC (.str "")) dNil)))) dNil))) dNil)))))
  (dSeq (dSet 2 (dOp DL.rAdd (dVar 2) (dLst (dCons (dCall sp_edits_error (dCons (dC (.str "")) (dCons (dC .non) dNil))) (dCons (dCall sp_do_touch (dCons (dTup (dCons (dC (.int 0)) (dCons (dC (.int 4)) (dCons (dC (.str "")) dNil)))) (dCons (dTup (dCons (dC (.int 5)) (dCons (dC (.int 6)) (dCons (dC (.str "")) dNil)))) dNil))) dNil)))))
  (dSeq (dSet 2 (dOp DL.rAdd (dVar 2) (dLst (dCons (dCall sp_edit_error (dCons (dC (.str "")) (dCons (dTup (dCons (dC (.int 0)) (dCons (dC (.int 0)) (dCons (dC (.str "")) dNil)))) dNil))) (dCons (dCall sp_edit_error (dCons (dC (.str "")) (dCons (dTup (dCons (dC (.int 0)) (dCons (dC (.int 1)) (dCons (dC (.str "")) dNil)))) dNil))) dNil)))))
  (dSeq (dSet 3 (dLst (dCons (dC (.str "give w over 4")) (dCons (dTup (dCons (dC (.int 12)) (dCons (dC (.int 14)) (dCons (dC (.str "2")) dNil)))) (dCons (dTup (dCons (dC (.int 12)) (dCons (dC (.int 13)) (dCons (dC (.str "4")) dNil)))) (dCons (dTup (dCons (dC (.int 2)) (dCons (dC (.int 3)) (dCons (dC (.str "")) dNil)))) (dCons (dTup (dCons (dC (.int 13)) (dCons (dC (.int 13)) (dCons (dC (.str "")) dNil)))) (dCons (dTup (dCons (dC (.int 2)) (dCons (dC (.int 4)) (dCons (dC (.str "")) dNil)))) (dCons (dTup (dCons (dC (.int 0)) (dCons (dC (.int 0)) (dCons (dC (.str "x")) dNil)))) (dCons (dTup (dCons (dC (.int 2)) (dCons (dC (.int 2)) (dCons (dC (.str "a")) dNil)))) (dCons (dTup (dCons (dC (.int 2)) (dCons (dC (.int 3)) (dCons (dC (.str "x")) dNil)))) (dCons (dTup (dCons (dC (.int 3)) (dCons (dC (.int 3)) (dCons (dC (.str "ba")) dNil)))) (dCons (dC (.str "let x = (w) over ")) (dCons (dC (.str "")) (dCons (dTup (dCons (dC (.str "touch")) (dCons (dC (.int 1)) dNil))) (dCons (dTup (dCons (dC (.str "touch")) (dCons (dC (.int 1)) dNil))) (dCons (dC .non) (dCons (dTup (dCons (dC (.str "edit")) (dCons (dC (.int 1)) (dCons (dC (.str "range")) dNil)))) (dCons (dC (.bl true)) (dCons (dC (.str "form")) (dCons (dC (.bl false)) (dCons (dC .non) (dCons (dC (.str "range")) dNil)))))))))))))))))))))))
  (dRet (dCall sp__law_like (dCons (dVar 2) (dCons (dVar 3) dNil)))))))))))))))
theorem read__law_is_typed_right : ∀ ds S R, sp__law_is_typed_right ds S R → t__law_is_typed_right { nx := fun _ S' => R .non S', rt := R } (dstart N__law_is_typed_right ds) S := by
  rintro ds S R ⟨rfl, k⟩
  refine rd [none, none, none, none] rfl ?_
  unfold t__law_is_typed_right
  walk_at "lits"
  walk_at "ev"
  refine ⟨[103, 105, 118, 101, 32, 119, 32, 111, 118, 101, 114, 32, 50], (12, 13, [52]), rfl, ⟨by decide, by decide⟩, by decide, by decide, ?_⟩
  rw [show doneE [103, 105, 118, 101, 32, 119, 32, 111, 118, 101, 114, 32, 50] (12, 13, [52]) = [103, 105, 118, 101, 32, 119, 32, 111, 118, 101, 114, 32, 52] from by decide +kernel]
  walk_at "ev"
  refine ⟨[103, 105, 118, 101, 32, 119, 32, 111, 118, 101, 114, 32, 50], (12, 13, [50, 52]), rfl, ⟨by decide, by decide⟩, by decide, by decide, ?_⟩
  rw [show backE [103, 105, 118, 101, 32, 119, 32, 111, 118, 101, 114, 32, 50] (12, 13, [50, 52]) = (12, 14, [50]) from by decide +kernel]
  walk_at "ev"
  refine ⟨[103, 105, 118, 101, 32, 119, 32, 111, 118, 101, 114, 32, 50], [103, 105, 118, 101, 32, 119, 32, 111, 118, 101, 114, 32, 52], rfl, by decide, by decide, ?_⟩
  rw [show betwE [103, 105, 118, 101, 32, 119, 32, 111, 118, 101, 114, 32, 50] [103, 105, 118, 101, 32, 119, 32, 111, 118, 101, 114, 32, 52] = (12, 13, [52]) from by decide +kernel]
  walk_at "ev"
  intro p1 f1
  walk_at "ev"
  refine ⟨[97, 97, 97], [97, 97], rfl, by decide, by decide, ?_⟩
  rw [show betwE [97, 97, 97] [97, 97] = (2, 3, []) from by decide +kernel]
  walk_at "ev"
  refine ⟨[103, 105, 118, 101, 32, 119, 32, 111, 118, 101, 114, 32, 50], [103, 105, 118, 101, 32, 119, 32, 111, 118, 101, 114, 32, 50], rfl, by decide, by decide, ?_⟩
  rw [show betwE [103, 105, 118, 101, 32, 119, 32, 111, 118, 101, 114, 32, 50] [103, 105, 118, 101, 32, 119, 32, 111, 118, 101, 114, 32, 50] = (13, 13, []) from by decide +kernel]
  walk_at "ev"
  refine ⟨[97, 98, 97, 98], [97, 98], rfl, by decide, by decide, ?_⟩
  rw [show betwE [97, 98, 97, 98] [97, 98] = (2, 4, []) from by decide +kernel]
  walk_at "ev"
  intro p2 f2
  refine ev_add_rr (by walk_at "lku") set_same (fun q2 g2 => ?_) (by rw [sizeLine_eq]; simp)
  walk_at "ev"
  refine ⟨[], [120], rfl, by decide, by decide, ?_⟩
  rw [show betwE [] [120] = (0, 0, [120]) from by decide +kernel]
  walk_at "ev"
  refine ⟨[97, 97], [97, 97, 97], rfl, by decide, by decide, ?_⟩
  rw [show betwE [97, 97] [97, 97, 97] = (2, 2, [97]) from by decide +kernel]
  walk_at "ev"
  refine ⟨[97, 98, 99, 97, 98], [97, 98, 120, 97, 98], rfl, by decide, by decide, ?_⟩
  rw [show betwE [97, 98, 99, 97, 98] [97, 98, 120, 97, 98] = (2, 3, [120]) from by decide +kernel]
  walk_at "ev"
  intro p3 f3
  refine ev_add_rr (by walk_at "lku") set_same (fun q3 g3 => ?_) (by rw [sizeLine_eq]; simp)
  walk_at "ev"
  refine ⟨[97, 98, 97], [97, 98, 97, 98, 97], rfl, by decide, by decide, ?_⟩
  rw [show betwE [97, 98, 97] [97, 98, 97, 98, 97] = (3, 3, [98, 97]) from by decide +kernel]
  walk_at "ev"
  refine ⟨[103, 105, 118, 101, 32, 119, 32, 111, 118, 101, 114, 32, 50], [(0, 4, [108, 101, 116, 32, 120, 32, 61]), (5, 6, [40, 119, 41]), (12, 13, [])], rfl, ⟨⟨by decide, by decide, by decide, ⟨by decide, by decide, by decide, ⟨by decide, by decide, by decide, trivial⟩⟩⟩, by decide, by decide +kernel⟩, ?_⟩
  rw [show doneL [103, 105, 118, 101, 32, 119, 32, 111, 118, 101, 114, 32, 50] 0 [(0, 4, [108, 101, 116, 32, 120, 32, 61]), (5, 6, [40, 119, 41]), (12, 13, [])] = [108, 101, 116, 32, 120, 32, 61, 32, 40, 119, 41, 32, 111, 118, 101, 114, 32] from by decide +kernel]
  walk_at "ev"
  refine ⟨[], [], rfl, ⟨trivial, by decide, by decide +kernel⟩, ?_⟩
  rw [show doneL [] 0 [] = [] from by decide +kernel]
  walk_at "ev"
  intro p4 f4
  refine ev_add_rr (by walk_at "lku") set_same (fun q4 g4 => ?_) (by rw [sizeLine_eq]; simp)
  walk_at "ev"
  refine ⟨[103, 105, 118, 101, 32, 119, 32, 111, 118, 101, 114, 32, 50], .tup ([(12, 13, []), (5, 6, [40, 119, 41]), (0, 4, [108, 101, 116, 32, 120, 32, 61])].map eD), rfl, by decide, kv2_eds, fun es h => (by cases h; decide), ?_⟩
  rw [show errsD [103, 105, 118, 101, 32, 119, 32, 111, 118, 101, 114, 32, 50] (.tup ([(12, 13, []), (5, 6, [40, 119, 41]), (0, 4, [108, 101, 116, 32, 120, 32, 61])].map eD)) = .tup [.str "touch", .int 1] from errsD_tch rfl rfl]
  walk_at "ev"
  intro p5 f5
  refine ev_add_rr (by walk_at "lku") set_same (fun q5 g5 => ?_) (by rw [sizeLine_eq]; simp)
  walk_at "ev"
  refine ⟨[103, 105, 118, 101, 32, 119, 32, 111, 118, 101, 114, 32, 50], .tup ([(0, 4, []), (4, 6, [])].map eD), rfl, by decide, kv2_eds, fun es h => (by cases h; decide), ?_⟩
  rw [show errsD [103, 105, 118, 101, 32, 119, 32, 111, 118, 101, 114, 32, 50] (.tup ([(0, 4, []), (4, 6, [])].map eD)) = .tup [.str "touch", .int 1] from errsD_tch rfl rfl]
  walk_at "ev"
  refine ⟨[103, 105, 118, 101, 32, 119, 32, 111, 118, 101, 114, 32, 50], .tup ([(0, 4, []), (5, 5, [])].map eD), rfl, by decide, kv2_eds, fun es h => (by cases h; decide), ?_⟩
  rw [show errsD [103, 105, 118, 101, 32, 119, 32, 111, 118, 101, 114, 32, 50] (.tup ([(0, 4, []), (5, 5, [])].map eD)) = .non from errsD_non rfl rfl]
  walk_at "ev"
  intro p6 f6
  refine ev_add_rr (by walk_at "lku") set_same (fun q6 g6 => ?_) (by rw [sizeLine_eq]; simp)
  walk_at "ev"
  refine ⟨[103, 105, 118, 101, 32, 119, 32, 111, 118, 101, 114, 32, 50], .tup ([(0, 4, []), (4, 99, [])].map eD), rfl, by decide, kv2_eds, fun es h => (by cases h; decide), ?_⟩
  rw [show errsD [103, 105, 118, 101, 32, 119, 32, 111, 118, 101, 114, 32, 50] (.tup ([(0, 4, []), (4, 99, [])].map eD)) = .tup [.str "edit", .int 1, .str "range"] from errsD_some rfl]
  walk_at "ev"
  refine ⟨(0, 4, []), (4, 6, []), rfl, ?_⟩
  rw [show decide (((4, 6, []) : ED).1 ≤ ((0, 4, []) : ED).2.1 ∧ ((0, 4, []) : ED).1 ≤ ((4, 6, []) : ED).2.1) = true from by decide]
  walk_at "ev"
  intro p7 f7
  refine ev_add_rr (by walk_at "lku") set_same (fun q7 g7 => ?_) (by rw [sizeLine_eq]; simp)
  walk_at "ev"
  refine ⟨[], _, rfl, by decide, ⟨⟨_, .non⟩, fun es h => by cases h⟩, fun es h => (by cases h), ?_⟩
  rw [show errsD [] .non = .str "form" from rfl, lit_0]
  walk_at "ev"
  refine ⟨(0, 4, []), (5, 6, []), rfl, ?_⟩
  rw [show decide (((5, 6, []) : ED).1 ≤ ((0, 4, []) : ED).2.1 ∧ ((0, 4, []) : ED).1 ≤ ((5, 6, []) : ED).2.1) = false from by decide]
  walk_at "ev"
  intro p8 f8
  refine ev_add_rr (by walk_at "lku") set_same (fun q8 g8 => ?_) (by rw [sizeLine_eq]; simp)
  walk_at "ev"
  refine ⟨[], eD (0, 0, []), rfl, by decide, kv_eD, ?_⟩
  rw [show errD [] (eD (0, 0, [])) = .non from rfl]
  walk_at "ev"
  refine ⟨[], eD (0, 1, []), rfl, by decide, kv_eD, ?_⟩
  rw [show errD [] (eD (0, 1, [])) = .str "range" from rfl]
  walk_at "ev"
  intro p9 f9
  refine ev_add_rr (by walk_at "lku") set_same (fun q9 g9 => ?_) (by rw [sizeLine_eq]; simp)
  walk_at "ev"
  intro pd fd
  walk_at "ev"
  refine like_lst (by walk_at "lku") set_same ?_ ?_ ?_ ?_
  · walk_at "pls"
  · show blks _ ≤ _
    walk_at "blk"
    simp
  · show deps _ ≤ _
    walk_at "blk"
    simp
  exact k _ (by walk_at "ups")

theorem if_val {c : Bool} {ta tb : DTE} {τ : DSt} {S : DS} {K : DK} (V : D → Prop) (h1 : c = true → ∀ K' : DK, (∀ d, V d → K' d S) → ta τ S K') (h2 : c = false → ∀ K' : DK, (∀ d, V d → K' d S) → tb τ S K') (k : ∀ d, V d → K d S) : if c = true then ta τ S K else tb τ S K :=
  br (fun h => h1 h K k) fun h => h2 h K k
theorem goErr_last {l : List Nat} {x : D} : ∀ {es : List ED} {k : Nat}, (∀ e ∈ es, EdOk l e) → isNonD (errD l x) = false → goErr l k (es.map eD ++ [x]) = some (.tup [.str "edit", .int ((k + es.length : Nat) : Int), errD l x])
  | [], k, _, hx => by
    show goErr l k [x] = _
    rw [goErr_cons, if_neg (by rw [hx]; decide)]
    rfl
  | e :: es, k, h, hx => by
    rw [List.map_cons, List.cons_append, goErr_cons, err_eD (h e List.mem_cons_self)]
    show goErr l (k + 1) (es.map eD ++ [x]) = _
    rw [goErr_last (fun y hy => h y (List.mem_cons_of_mem _ hy)) hx, List.length_cons, show k + 1 + es.length = k + (es.length + 1) by omega]
def sp__law_is_long_right : DSp := fun ds S R => ∃ b c, ds = [.ref b] ∧ Bag b c S ∧ ∀ S', Bag b c S' → R (.bl true) S'
abbrev N__law_is_long_right : List Str := ["bag", "part", "text", "begin", "edit", "edits", "bad", "told", "other"]
abbrev ps__law_is_long_right : List Str := ["bag"]
def t__law_is_long_right : DTS := (dSeq (dSet 1 (dCall sp__law_signs (dCons (dVar 0) (dCons (dOp DL.rAdd (dC (.int 1)) (dCall sp__law_draw (dCons (dVar 0) (dCons (dC (.int 7)) dNil)))) dNil))))
  (dSeq (dSet 2 (dSlice (dOp DL.rMul (dVar 1) (dC (.int 12000))) dNoPart (dPart (dC (.int 12000)))))
  (dSeq (dSet 3 (dCall sp__law_pick (dCons (dVar 0) (dCons (dLst (dCons (dC (.int 0)) (dCons (dC (.int 11990)) (dCons (dCall sp__law_draw (dCons (dVar 0) (dCons (dC (.int 11990)) dNil))) dNil)))) dNil))))
  (dSeq (dSet 4 (dTup (dCons (dVar 3) (dCons (dOp DL.rAdd (dOp DL.rAdd (dVar 3) (dC (.int 5))) (dCall sp__law_draw (dCons (dVar 0) (dCons (dC (.int 6)) dNil)))) (dCons (dCall sp__law_pick (dCons (dVar 0) (dCons (dLst (dCons (dC (.str "")) (dCons (dC (.str "q")) (dCons (dC (.str "qqqqq")) (dCons (dSlice (dVar 1) dNoPart (dPart (dC (.int 5)))) dNil))))) dNil))) dNil)))))
  (dSeq (dSet 5 (dIf (dB (dOp rLt (dVar 3) (dC (.int 20)))) (dTup (dCons (dVar 4) dNil)) (dTup (dCons (dTup (dCons (dC (.int 0)) (dCons (dC (.int 7)) (dCons (dC (.str "zz")) dNil)))) (dCons (dVar 4) dNil)))))
  (dSeq (dIfS (dOrT (dNotT (dTruth (dCall sp__law_is_edit_right (dCons (dVar 2) (dCons (dVar 4) dNil))))) (dNotT (dTruth (dCall sp__law_like (dCons (dCall sp_edits_done (dCons (dVar 2) (dCons (dVar 5) dNil))) (dCons (dCall sp__law_done (dCons (dVar 2) (dCons (dVar 5) dNil))) dNil)))))) (dRet (dC (.bl false))) dNext)
  (dSeq (dSet 6 (dTup (dCons (dC (.int 12000)) (dCons (dC (.int 12001)) (dCons (dC (.str "")) dNil)))))
  (dSeq (dSet 7 (dLst (dCons (dCall sp_edit_error (dCons (dVar 2) (dCons (dVar 6) dNil))) (dCons (dCall sp_edit_error (dCons (dVar 2) (dCons (dTup (dCons (dC (.int 12000)) (dCons (dC (.int 12000)) (dCons (dC (.str "")) dNil)))) dNil))) (dCons (dCall sp_edits_error (dCons (dVar 2) (dCons (dOp DL.rAdd (dVar 5) (dTup (dCons (dVar 6) dNil))) dNil))) dNil)))))
  (dSeq (dIfS (dNotT (dTruth (dCall sp__law_like (dCons (dVar 7) (dCons (dLst (dCons (dC (.str "range")) (dCons (dC .non) (dCons (dTup (dCons (dC (.str "edit")) (dCons (dCB rLen (dCons (dVar 5) dNil)) (dCons (dC (.str "range")) dNil)))) dNil)))) dNil))))) (dRet (dC (.bl false))) dNext)
  (dSeq (dSet 8 (dCall sp__law_done (dCons (dVar 2) (dCons (dLst (dCons (dVar 4) dNil)) dNil))))
  (dRet (dCall sp__law_like (dCons (dCall sp_edit_between (dCons (dVar 2) (dCons (dVar 8) dNil))) (dCons (dCall sp__law_between (dCons (dVar 2) (dCons (dVar 8) dNil))) dNil))))))))))))))
theorem read__law_is_long_right : ∀ ds S R, sp__law_is_long_right ds S R → t__law_is_long_right { nx := fun _ S' => R .non S', rt := R } (dstart N__law_is_long_right ds) S := by
  rintro ds S R ⟨b, c, rfl, B, k⟩
  refine rd [some _, none, none, none, none, none, none, none, none] rfl ?_
  unfold t__law_is_long_right
  walk_at "lits"
  walk_at "ev"
  refine do_draw B (fun j S1 hj B1 u1 => ?_) (by decide)
  walk_at "ev"
  refine ⟨b, c, 1 + j, by rw [Int.natCast_add]; rfl, B1, by omega, fun part S2 hpart okp B2 u2 => ?_⟩
  walk_at "ev"
  have r0 : (List.replicate (12000 : Int).toNat part).flatten.length = 12000 * part.length := rep_len
  refine ev_mul_si ?_ ⟨by omega, by rw [show (12000 : Int).toNat = 12000 from rfl]; omega, by omega⟩
  walk_at "ev"
  have cut12 : cutN (List.replicate (12000 : Int).toNat part).flatten none (some (12000 : Int)) = (List.replicate (12000 : Int).toNat part).flatten.take 12000 := cutN_no _ 12000
  rw [cut12]
  have okt : Ok ((List.replicate (12000 : Int).toNat part).flatten.take 12000) := okp.rep.take
  have lt : ((List.replicate (12000 : Int).toNat part).flatten.take 12000).length = 12000 := by rw [List.length_take]; omega
  clear cut12 r0
  generalize (List.replicate (12000 : Int).toNat part).flatten.take 12000 = l at *
  refine do_draw B2 (fun i0 S3 hi0 B3 u3 => ?_) (by decide)
  walk_at "ev"
  intro p1 f1
  walk_at "ev"
  refine do_pickN B3 f1 (fun d hd S4 B4 u4 => ?_) ⟨by simp, by simp⟩
  obtain ⟨i, rfl, hi⟩ : ∃ i : Nat, d = .int (i : Nat) ∧ i ≤ 11990 := by
    simp only [List.mem_cons, List.mem_nil_iff, or_false] at hd
    rcases hd with rfl | rfl | rfl
    · exact ⟨0, rfl, by omega⟩
    · exact ⟨11990, rfl, by omega⟩
    · exact ⟨i0, rfl, by omega⟩
  walk_at "ev"
  refine do_draw B4 (fun m S5 hm B5 u5 => ?_) (by decide)
  walk_at "ev"
  intro p2 f2
  walk_at "ev"
  refine do_pickN B5 f2 (fun d hd S6 B6 u6 => ?_) ⟨by simp, by simp⟩
  obtain ⟨p, rfl, hp, okp2⟩ : ∃ p, d = .str (mk p) ∧ p.length ≤ 5 ∧ Ok p := by
    simp only [List.mem_cons, List.mem_nil_iff, or_false] at hd
    rcases hd with rfl | rfl | rfl | rfl
    · exact ⟨_, rfl, by decide, by walk_at "ok"⟩
    · exact ⟨_, rfl, by decide, by walk_at "ok"⟩
    · exact ⟨_, rfl, by decide, by walk_at "ok"⟩
    · refine ⟨_, rfl, ?_, okp.cut⟩
      have : cutN part none (some (5 : Int)) = part.take 5 := cutN_no _ 5
      rw [this, List.length_take]; omega
  walk_at "ev"
  have ee : D.tup [D.int i, .int ((i : Int) + 5 + (m : Nat)), .str (mk p)] = eD (i, i + 5 + m, p) := by
    show _ = D.tup [D.int i, .int ((i + 5 + m : Nat) : Int), .str (mk p)]
    rw [Int.natCast_add, Int.natCast_add]; rfl
  rw [ee]
  have he : EdOk l (i, i + 5 + m, p) := ⟨by dsimp only; omega, by dsimp only; omega⟩
  refine if_val (fun d => ∃ es : List ED, d = .tup (es.map eD) ∧ SrtS l 0 es ∧ es.length ≤ 2 ∧ ∀ e ∈ es, e.2.2.length ≤ 5 ∧ Ok e.2.2) (fun h K' kk => ?_) (fun h K' kk => ?_) ?_
  · walk_at "ev"
    exact kk _ ⟨[(i, i + 5 + m, p)], rfl, SrtS.one he, by simp, fun e h => by rw [List.mem_singleton] at h; subst h; exact ⟨hp, okp2⟩⟩
  · simp only [decide_eq_false_iff_not] at h
    walk_at "ev"
    refine kk _ ⟨[(0, 7, [122, 122]), (i, i + 5 + m, p)], rfl, ⟨by decide, by decide, by dsimp only; omega, by dsimp only; omega, by dsimp only; omega, by dsimp only; omega, trivial⟩, by simp, fun e h => ?_⟩
    simp only [List.mem_cons, List.mem_nil_iff, or_false] at h
    rcases h with rfl | rfl
    · exact ⟨by decide, by walk_at "ok"⟩
    · exact ⟨hp, okp2⟩
  rintro _ ⟨es, rfl, hs, h2, h5⟩
  have eo := EdsOk.of hs (by omega) h5 (show l.length ≤ 100000 by omega)
  have lb := doneL_len eo.1.srt
  have okd : Ok (doneL l 0 es) := doneL_ok okt fun e he => (h5 e he).2
  walk_at "ev"
  refine ⟨l, _, rfl, he, by omega, by dsimp only; omega, okt, okp2, fun S7 u7 => ?_⟩
  walk_at "ev"
  refine ⟨l, es, rfl, eo.1, ?_⟩
  walk_at "ev"
  refine ⟨l, es, _, rfl, .inl rfl, eo.1, ?_⟩
  walk_at "ev"
  refine like_pl (pl_str okd) (by show blk _ ≤ _; rw [blk_str]; omega) (by show dep _ ≤ _; rw [dep_str]; omega) ?_
  walk_at "ev"
  have eb : D.tup [D.int 12000, .int 12001, .str (mk [])] = eD (12000, 12001, []) := rfl
  have eb2 : D.tup [D.int 12000, .int 12000, .str (mk [])] = eD (12000, 12000, []) := rfl
  have x1 : errD l (eD (12000, 12001, [])) = .str "range" := by
    show (if (0 : Int) ≤ 12000 ∧ (12000 : Int) ≤ 12001 ∧ (12001 : Int) ≤ l.length then D.non else .str "range") = _
    rw [if_neg (by omega)]
  have x2 : errD l (eD (12000, 12000, [])) = .non := err_eD ⟨by decide, by dsimp only; omega⟩
  refine ⟨l, _, rfl, by omega, kv_eD (e := (12000, 12001, [])), ?_⟩
  rw [eb, x1]
  walk_at "ev"
  refine ⟨l, _, rfl, by omega, kv_eD (e := (12000, 12000, [])), ?_⟩
  rw [eb2, x2]
  walk_at "ev"
  · have ea : es.map eD ++ [eD (12000, 12001, [])] = (es ++ [(12000, 12001, [])]).map eD := by simp
    refine ⟨l, .tup (es.map eD ++ [eD (12000, 12001, [])]), rfl, by omega, by rw [ea]; exact kv2_eds, fun xs h => by cases h; simp; omega, ?_⟩
    have x3 : errsD l (.tup (es.map eD ++ [eD (12000, 12001, [])])) = .tup [.str "edit", .int (es.length : Nat), .str "range"] := by
      rw [errsD_some (goErr_last hs.ok (by rw [x1]; rfl)), x1, Nat.zero_add]
    rw [x3, lit_1, lit_4]
    walk_at "ev"
    intro p3 f3
    walk_at "ev"
    rw [List.length_map]
    intro p4 f4
    walk_at "ev"
    refine like_lst (by walk_at "lku") set_same ?_ ?_ ?_ ?_
    · walk_at "pls"
    · show blks _ ≤ _
      walk_at "blk"
      simp
    · show deps _ ≤ _
      walk_at "blk"
      simp
    walk_at "ev"
    intro p5 f5
    walk_at "ev"
    have eo1 := EdsOk.of (SrtS.one he) (by simp) (fun x hx => by rw [List.mem_singleton] at hx; subst hx; exact ⟨hp, okp2⟩) (show l.length ≤ 100000 by omega)
    refine ⟨l, [(i, i + 5 + m, p)], _, rfl, .inr ⟨p5, rfl, set_same⟩, eo1.1, ?_⟩
    rw [doneL_one]
    have ld := done_len he
    dsimp only at ld
    walk_at "ev"
    refine ⟨l, _, rfl, by omega, by omega, ?_⟩
    walk_at "ev"
    refine ⟨l, _, rfl, by omega, by omega, ?_⟩
    walk_at "ev"
    have bl := betw_len l (doneE l (i, i + 5 + m, p))
    refine like_pl (pl_eD (betw_ok _ _) (by omega) (betw_okk _ (done_ok okt okp2))) (by show blk _ ≤ _; rw [blk_eD]; omega) (by show dep _ ≤ _; rw [dep_eD]; omega) ?_
    exact k _ (by walk_at "bag")

def sp_law : DSp := fun ds S R => ∃ (a : Addr) (ns : List Int), ds = [.ref a] ∧ S a = some (.fro (ns.map D.int)) ∧ ns.length ≤ sizeLine ∧ ∀ S', R (.bl true) S'
abbrev N_law : List Str := ["script", "bag", "turn", "text", "edit", "other"]
abbrev ps_law : List Str := ["script"]
def t_law : DTS := (dSeq (dSet 1 (dCall sp__law_own_bag (dCons (dVar 0) dNil)))
  (dSeq (dIfS (dNotT (dTruth (dCall sp__law_is_typed_right dNil))) (dRet (dC (.bl false))) dNext)
  (dSeq (dFor (dRng1 (dCons (dC (.int 3)) dNil)) (dgName 2) (dSeq (dSet 3 (dCall sp__law_text (dCons (dVar 1) dNil)))
  (dSeq (dSet 4 (dCall sp__law_edit (dCons (dVar 1) (dCons (dVar 3) dNil))))
  (dSeq (dIfS (dOrT (dNotT (dTruth (dCall sp__law_is_edit_right (dCons (dVar 3) (dCons (dVar 4) dNil))))) (dNotT (dTruth (dCall sp__law_are_errors_right (dCons (dVar 1) (dCons (dVar 3) (dCons (dVar 4) dNil))))))) (dRet (dC (.bl false))) dNext)
  (dSeq (dIfS (dOrT (dNotT (dTruth (dCall sp__law_are_edits_right (dCons (dVar 1) (dCons (dVar 3) dNil))))) (dNotT (dTruth (dCall sp__law_are_touches_right (dCons (dVar 1) (dCons (dVar 3) dNil)))))) (dRet (dC (.bl false))) dNext)
  (dFor (dIt (dCall sp__law_others (dCons (dVar 1) (dCons (dVar 3) dNil)))) (dgName 5) (dIfS (dNotT (dTruth (dCall sp__law_is_between_right (dCons (dVar 1) (dCons (dVar 3) (dCons (dVar 5) dNil)))))) (dRet (dC (.bl false))) dNext)))))))
  (dRet (dOrV (dOp rGt (dCall sp__law_draw (dCons (dVar 1) (dCons (dC (.int 8)) dNil))) (dC (.int 0))) (dCall sp__law_is_long_right (dCons (dVar 1) dNil)))))))
theorem read_law : ∀ ds S R, sp_law ds S R → t_law { nx := fun _ S' => R .non S', rt := R } (dstart N_law ds) S := by
  rintro ds S R ⟨a, ns, rfl, ha, hn, k⟩
  refine rd [some _, none, none, none, none, none] rfl ?_
  unfold t_law
  walk_at "ev"
  refine ⟨a, ns, rfl, ha, hn, fun b c S1 B1 => ?_⟩
  walk_at "ev"
  refine ⟨rfl, fun S2 u2 => ?_⟩
  walk_at "ev"
  have B2 := B1.up u2
  refine forB (fun i τ S' => ∃ (x y z w : Option D), τ = [some (.ref a), some (.ref b), x, y, z, w] ∧ Bag b c S') (fun τ S' => ∃ (x y z w : Option D), τ = [some (.ref a), some (.ref b), x, y, z, w] ∧ Bag b c S')
    ⟨none, none, none, none, rfl, B2⟩ (fun _ _ _ _ _ => trivial) ?_ (fun τ S' h => h) ?_
  · clear B2 u2 B1 ha S2 S1
    rintro nx N hO i d τ S1 hd hi ⟨x, y, z, w, rfl, B1⟩ hN
    walk_at "ev"
    refine ⟨b, c, rfl, B1, fun l S2 hl ok B2 u2 => ?_⟩
    walk_at "ev"
    refine ⟨b, c, l, rfl, B2, by omega, ok, fun e S3 he h5 ok5 B3 u3 => ?_⟩
    walk_at "ev"
    refine ⟨l, e, rfl, he, by omega, by omega, ok, ok5, fun S4 u4 => ?_⟩
    walk_at "ev"
    refine ⟨b, c, l, e, rfl, B3.up u4, he, by omega, h5, ok5, fun S5 B5 u5 => ?_⟩
    walk_at "ev"
    refine ⟨b, c, l, rfl, B5, by omega, ok, fun S6 B6 u6 => ?_⟩
    walk_at "ev"
    refine ⟨b, c, l, rfl, B6, by omega, ok, fun S7 B7 u7 => ?_⟩
    walk_at "ev"
    refine ev_itL ?_
    walk_at "ev"
    refine ⟨b, c, l, rfl, B7, by omega, ok, fun p ts S8 hts hp off8 B8 u8 => ?_⟩
    walk_at "ev"
    refine ev_ref1 hp ?_
    refine forB (fun i τ S' => ∃ (w : Option D), τ = [some (.ref a), some (.ref b), some d, some (.str (mk l)), some (eD e), w] ∧ Bag b c S' ∧ S' p = some (.lst (ts.map fun t => .str (mk t)))) (fun τ S' => ∃ (w : Option D), τ = [some (.ref a), some (.ref b), some d, some (.str (mk l)), some (eD e), w] ∧ Bag b c S')
      ⟨_, rfl, B8, hp⟩ (fun _ _ _ _ ⟨_, _, _, h⟩ => .inl h) ?_ (fun τ S' ⟨w, h1, h2, h3⟩ => ⟨w, h1, h2⟩) ?_
    · clear hp B8 u8 B7 u7 B6 u6 B5 u5 u4 B3 u3 B2 u2 B1
      rintro nx N' hO' i d' τ S9 hd' hi' ⟨w, rfl, B9, hp⟩ hN'
      obtain ⟨t, ht, rfl⟩ := map_get hd'
      have tt := hts t (List.mem_of_getElem? ht)
      walk_at "ev"
      refine ⟨_, l, t, rfl, by omega, by omega, fun _ => by omega, ok, tt.2, fun S10 u10 => ?_⟩
      walk_at "ev"
      exact hN' _ _ ⟨_, rfl, B9.up u10, u10.get id hp⟩
    · rintro τ S9 ⟨w, rfl, B9⟩
      exact hN _ _ ⟨_, _, _, _, rfl, B9⟩
  · rintro τ S9 ⟨x, y, z, w, rfl, B9⟩
    walk_at "ev"
    refine do_draw B9 (fun j S10 hj B10 u10 => ?_) (by decide)
    walk_at "ev"
    refine br (fun _ => k _) fun _ => ?_
    walk_at "ev"
    exact ⟨b, c, rfl, B10, fun S11 _ => k _⟩

end K29
namespace K29
open PySem PySem.Spec PyProof.Rows L2 DL
def topS (i : Nat) : Stmt := PySem.Challenge.pw_mendsagree_k29_whole_edits_of_texts.main.body.getD i (.Pass ⟨0, 0, 0, 0⟩)
structure Blt (mg : Str → Option Value) : Prop where
  b_abs : mg "abs" = none
  b_bool : mg "bool" = none
  b_enumerate : mg "enumerate" = none
  b_int : mg "int" = none
  b_isinstance : mg "isinstance" = none
  b_len : mg "len" = none
  b_list : mg "list" = none
  b_min : mg "min" = none
  b_range : mg "range" = none
  b_repr : mg "repr" = none
  b_reversed : mg "reversed" = none
  b_str : mg "str" = none
  b_tuple : mg "tuple" = none
abbrev s_is_integer : Stmt := topS 1
theorem sc_is_integer : FnScope N_is_integer ps_is_integer (defScope s_is_integer) := ⟨rfl, rfl, rfl, by decide +kernel, rfl, by decide +kernel, by decide +kernel⟩
abbrev s_edit_done : Stmt := topS 4
theorem sc_edit_done : FnScope N_edit_done ps_edit_done (defScope s_edit_done) := ⟨rfl, rfl, rfl, by decide +kernel, rfl, by decide +kernel, by decide +kernel⟩
abbrev s_edit_between : Stmt := topS 5
theorem sc_edit_between : FnScope N_edit_between ps_edit_between (defScope s_edit_between) := ⟨rfl, rfl, rfl, by decide +kernel, rfl, by decide +kernel, by decide +kernel⟩
abbrev s_edit_back : Stmt := topS 6
theorem sc_edit_back : FnScope N_edit_back ps_edit_back (defScope s_edit_back) := ⟨rfl, rfl, rfl, by decide +kernel, rfl, by decide +kernel, by decide +kernel⟩
abbrev s_do_touch : Stmt := topS 7
theorem sc_do_touch : FnScope N_do_touch ps_do_touch (defScope s_do_touch) := ⟨rfl, rfl, rfl, by decide +kernel, rfl, by decide +kernel, by decide +kernel⟩
abbrev s__law_own_bag : Stmt := topS 11
theorem sc__law_own_bag : FnScope N__law_own_bag ps__law_own_bag (defScope s__law_own_bag) := ⟨rfl, rfl, rfl, by decide +kernel, rfl, by decide +kernel, by decide +kernel⟩
abbrev s__law_draw : Stmt := topS 12
theorem sc__law_draw : FnScope N__law_draw ps__law_draw (defScope s__law_draw) := ⟨rfl, rfl, rfl, by decide +kernel, rfl, by decide +kernel, by decide +kernel⟩
abbrev s__law_like : Stmt := topS 14
theorem sc__law_like : FnScope N__law_like ps__law_like (defScope s__law_like) := ⟨rfl, rfl, rfl, by decide +kernel, rfl, by decide +kernel, by decide +kernel⟩
abbrev s__law_edit_due : Stmt := topS 20
theorem sc__law_edit_due : FnScope N__law_edit_due ps__law_edit_due (defScope s__law_edit_due) := ⟨rfl, rfl, rfl, by decide +kernel, rfl, by decide +kernel, by decide +kernel⟩
abbrev s__law_done : Stmt := topS 22
theorem sc__law_done : FnScope N__law_done ps__law_done (defScope s__law_done) := ⟨rfl, rfl, rfl, by decide +kernel, rfl, by decide +kernel, by decide +kernel⟩
abbrev s__law_common : Stmt := topS 23
theorem sc__law_common : FnScope N__law_common ps__law_common (defScope s__law_common) := ⟨rfl, rfl, rfl, by decide +kernel, rfl, by decide +kernel, by decide +kernel⟩
abbrev s__law_is_least : Stmt := topS 25
theorem sc__law_is_least : FnScope N__law_is_least ps__law_is_least (defScope s__law_is_least) := ⟨rfl, rfl, rfl, by decide +kernel, rfl, by decide +kernel, by decide +kernel⟩
abbrev s__law_wrong_edits : Stmt := topS 29
theorem sc__law_wrong_edits : FnScope N__law_wrong_edits ps__law_wrong_edits (defScope s__law_wrong_edits) := ⟨rfl, rfl, rfl, by decide +kernel, rfl, by decide +kernel, by decide +kernel⟩
abbrev s__law_do_touch : Stmt := topS 33
theorem sc__law_do_touch : FnScope N__law_do_touch ps__law_do_touch (defScope s__law_do_touch) := ⟨rfl, rfl, rfl, by decide +kernel, rfl, by decide +kernel, by decide +kernel⟩
abbrev s_edit_error : Stmt := topS 3
theorem sc_edit_error : FnScope N_edit_error ps_edit_error (defScope s_edit_error) := ⟨rfl, rfl, rfl, by decide +kernel, rfl, by decide +kernel, by decide +kernel⟩
abbrev s_edits_done : Stmt := topS 9
theorem sc_edits_done : FnScope N_edits_done ps_edits_done (defScope s_edits_done) := ⟨rfl, rfl, rfl, by decide +kernel, rfl, by decide +kernel, by decide +kernel⟩
abbrev s__law_pick : Stmt := topS 13
theorem sc__law_pick : FnScope N__law_pick ps__law_pick (defScope s__law_pick) := ⟨rfl, rfl, rfl, by decide +kernel, rfl, by decide +kernel, by decide +kernel⟩
abbrev s__law_edits_due : Stmt := topS 21
theorem sc__law_edits_due : FnScope N__law_edits_due ps__law_edits_due (defScope s__law_edits_due) := ⟨rfl, rfl, rfl, by decide +kernel, rfl, by decide +kernel, by decide +kernel⟩
abbrev s__law_between : Stmt := topS 24
theorem sc__law_between : FnScope N__law_between ps__law_between (defScope s__law_between) := ⟨rfl, rfl, rfl, by decide +kernel, rfl, by decide +kernel, by decide +kernel⟩
abbrev s_edits_error : Stmt := topS 8
theorem sc_edits_error : FnScope N_edits_error ps_edits_error (defScope s_edits_error) := ⟨rfl, rfl, rfl, by decide +kernel, rfl, by decide +kernel, by decide +kernel⟩
abbrev s__law_signs : Stmt := topS 15
theorem sc__law_signs : FnScope N__law_signs ps__law_signs (defScope s__law_signs) := ⟨rfl, rfl, rfl, by decide +kernel, rfl, by decide +kernel, by decide +kernel⟩
abbrev s__law_is_edit_right : Stmt := topS 26
theorem sc__law_is_edit_right : FnScope N__law_is_edit_right ps__law_is_edit_right (defScope s__law_is_edit_right) := ⟨rfl, rfl, rfl, by decide +kernel, rfl, by decide +kernel, by decide +kernel⟩
abbrev s__law_is_between_right : Stmt := topS 27
theorem sc__law_is_between_right : FnScope N__law_is_between_right ps__law_is_between_right (defScope s__law_is_between_right) := ⟨rfl, rfl, rfl, by decide +kernel, rfl, by decide +kernel, by decide +kernel⟩
abbrev s__law_are_errors_right : Stmt := topS 30
theorem sc__law_are_errors_right : FnScope N__law_are_errors_right ps__law_are_errors_right (defScope s__law_are_errors_right) := ⟨rfl, rfl, rfl, by decide +kernel, rfl, by decide +kernel, by decide +kernel⟩
abbrev s__law_some_edits : Stmt := topS 31
theorem sc__law_some_edits : FnScope N__law_some_edits ps__law_some_edits (defScope s__law_some_edits) := ⟨rfl, rfl, rfl, by decide +kernel, rfl, by decide +kernel, by decide +kernel⟩
abbrev s__law_text : Stmt := topS 16
theorem sc__law_text : FnScope N__law_text ps__law_text (defScope s__law_text) := ⟨rfl, rfl, rfl, by decide +kernel, rfl, by decide +kernel, by decide +kernel⟩
abbrev s__law_put : Stmt := topS 17
theorem sc__law_put : FnScope N__law_put ps__law_put (defScope s__law_put) := ⟨rfl, rfl, rfl, by decide +kernel, rfl, by decide +kernel, by decide +kernel⟩
abbrev s__law_is_typed_right : Stmt := topS 35
theorem sc__law_is_typed_right : FnScope N__law_is_typed_right ps__law_is_typed_right (defScope s__law_is_typed_right) := ⟨rfl, rfl, rfl, by decide +kernel, rfl, by decide +kernel, by decide +kernel⟩
abbrev s__law_is_long_right : Stmt := topS 36
theorem sc__law_is_long_right : FnScope N__law_is_long_right ps__law_is_long_right (defScope s__law_is_long_right) := ⟨rfl, rfl, rfl, by decide +kernel, rfl, by decide +kernel, by decide +kernel⟩
abbrev s__law_edit : Stmt := topS 18
theorem sc__law_edit : FnScope N__law_edit ps__law_edit (defScope s__law_edit) := ⟨rfl, rfl, rfl, by decide +kernel, rfl, by decide +kernel, by decide +kernel⟩
abbrev s__law_edits : Stmt := topS 19
theorem sc__law_edits : FnScope N__law_edits ps__law_edits (defScope s__law_edits) := ⟨rfl, rfl, rfl, by decide +kernel, rfl, by decide +kernel, by decide +kernel⟩
abbrev s__law_others : Stmt := topS 28
theorem sc__law_others : FnScope N__law_others ps__law_others (defScope s__law_others) := ⟨rfl, rfl, rfl, by decide +kernel, rfl, by decide +kernel, by decide +kernel⟩
abbrev s__law_are_edits_right : Stmt := topS 32
theorem sc__law_are_edits_right : FnScope N__law_are_edits_right ps__law_are_edits_right (defScope s__law_are_edits_right) := ⟨rfl, rfl, rfl, by decide +kernel, rfl, by decide +kernel, by decide +kernel⟩
abbrev s__law_are_touches_right : Stmt := topS 34
theorem sc__law_are_touches_right : FnScope N__law_are_touches_right ps__law_are_touches_right (defScope s__law_are_touches_right) := ⟨rfl, rfl, rfl, by decide +kernel, rfl, by decide +kernel, by decide +kernel⟩
abbrev s_law : Stmt := topS 37
theorem sc_law : FnScope N_law ps_law (defScope s_law) := ⟨rfl, rfl, rfl, by decide +kernel, rfl, by decide +kernel, by decide +kernel⟩

section
variable {P : Program} {w : World} {K : PySem.W.Frag} {mg : Str → Option Value} {base : Heap}
theorem body_is_integer (B : Blt mg) (f : Addr) (cdv : Value) (A : Around) (outer : List Env) (s : Shared) (H : Hp) (E : XK) (hr : Room 0 (bodyX P w K mg base N_is_integer "is_integer" s_is_integer f cdv A outer s H E).A) (gd : (bodyX P w K mg base N_is_integer "is_integer" s_is_integer f cdv A outer s H E).A.guards = some []) : DSs (bodyX P w K mg base N_is_integer "is_integer" s_is_integer f cdv A outer s H E) (defBody s_is_integer) t_is_integer :=
  (ds_one (ds_ret (de_and (de_callB (call_Isi) (by rfl) B.b_isinstance (by decide +kernel) (da_cons (de_of (pv 0)) (da_cons (de_ty (by rfl) B.b_int (by decide +kernel)) da_nil))) (de_one (de_not (de_callB (call_Isi) (by rfl) B.b_isinstance (by decide +kernel) (da_cons (de_of (pv 0)) (da_cons (de_ty (by rfl) B.b_bool (by decide +kernel)) da_nil))))))))
theorem body_edit_done (B : Blt mg) (f : Addr) (cdv : Value) (A : Around) (outer : List Env) (s : Shared) (H : Hp) (E : XK) (hr : Room 0 (bodyX P w K mg base N_edit_done "edit_done" s_edit_done f cdv A outer s H E).A) (gd : (bodyX P w K mg base N_edit_done "edit_done" s_edit_done f cdv A outer s H E).A.guards = some []) : DSs (bodyX P w K mg base N_edit_done "edit_done" s_edit_done f cdv A outer s H E) (defBody s_edit_done) t_edit_done :=
  (ds_cons (ds_asg (de_of (pv 1)) (dg_tup rfl (dgs_cons (dg_name (i := 2) sc_edit_done.nd rfl (by first | exact Or.inl rfl | exact Or.inr rfl)) (dgs_cons (dg_name (i := 3) sc_edit_done.nd rfl (by first | exact Or.inl rfl | exact Or.inr rfl)) (dgs_cons (dg_name (i := 4) sc_edit_done.nd rfl (by first | exact Or.inl rfl | exact Or.inr rfl)) dgs_nil)))))
    (ds_one (ds_ret (de_op op_Add (de_op op_Add (de_slice (de_of (pv 0)) do_none (do_some (de_of (pv 2)))) (de_of (pv 4))) (de_slice (de_of (pv 0)) (do_some (de_of (pv 3))) do_none)))))
theorem body_edit_between (B : Blt mg) (f : Addr) (cdv : Value) (A : Around) (outer : List Env) (s : Shared) (H : Hp) (E : XK) (hr : Room 0 (bodyX P w K mg base N_edit_between "edit_between" s_edit_between f cdv A outer s H E).A) (gd : (bodyX P w K mg base N_edit_between "edit_between" s_edit_between f cdv A outer s H E).A.guards = some []) : DSs (bodyX P w K mg base N_edit_between "edit_between" s_edit_between f cdv A outer s H E) (defBody s_edit_between) t_edit_between :=
  (ds_cons (ds_set (i := 2) sc_edit_between.nd rfl (by first | exact Or.inl rfl | exact Or.inr rfl) de_int)
    (ds_cons (ds_while PassesOwn.never (dt_w (dw_and (dt_cmp op_Lt (de_of (pv 2)) (de_callB (call_Len) (by rfl) B.b_len (by decide +kernel) (da_cons (de_of (pv 0)) da_nil))) (dw_and (dt_cmp op_Lt (de_of (pv 2)) (de_callB (call_Len) (by rfl) B.b_len (by decide +kernel) (da_cons (de_of (pv 1)) da_nil))) (dw_and1 (dt_cmp (op_Eq (huR hr)) (de_ix (de_of (pv 0)) (de_of (pv 2))) (de_ix (de_of (pv 1)) (de_of (pv 2)))))))) (ds_one (ds_set (i := 2) sc_edit_between.nd rfl (by first | exact Or.inl rfl | exact Or.inr rfl) (de_op op_Add (de_of (pv 2)) de_int))))
    (ds_cons (ds_set (i := 3) sc_edit_between.nd rfl (by first | exact Or.inl rfl | exact Or.inr rfl) de_int)
    (ds_cons (ds_while PassesOwn.never (dt_w (dw_and (dt_cmp op_Lt (de_of (pv 3)) (de_op op_Sub (de_callB (call_Len) (by rfl) B.b_len (by decide +kernel) (da_cons (de_of (pv 0)) da_nil)) (de_of (pv 2)))) (dw_and (dt_cmp op_Lt (de_of (pv 3)) (de_op op_Sub (de_callB (call_Len) (by rfl) B.b_len (by decide +kernel) (da_cons (de_of (pv 1)) da_nil)) (de_of (pv 2)))) (dw_and1 (dt_cmp (op_Eq (huR hr)) (de_ix (de_of (pv 0)) (de_op op_Sub (de_un un_Neg de_int) (de_of (pv 3)))) (de_ix (de_of (pv 1)) (de_op op_Sub (de_un un_Neg de_int) (de_of (pv 3))))))))) (ds_one (ds_set (i := 3) sc_edit_between.nd rfl (by first | exact Or.inl rfl | exact Or.inr rfl) (de_op op_Add (de_of (pv 3)) de_int))))
    (ds_one (ds_ret (de_tup (da_cons (de_of (pv 2)) (da_cons (de_op op_Sub (de_callB (call_Len) (by rfl) B.b_len (by decide +kernel) (da_cons (de_of (pv 0)) da_nil)) (de_of (pv 3))) (da_cons (de_slice (de_of (pv 1)) (do_some (de_of (pv 2))) (do_some (de_op op_Sub (de_callB (call_Len) (by rfl) B.b_len (by decide +kernel) (da_cons (de_of (pv 1)) da_nil)) (de_of (pv 3))))) da_nil))))))))))
theorem body_edit_back (B : Blt mg) (f : Addr) (cdv : Value) (A : Around) (outer : List Env) (s : Shared) (H : Hp) (E : XK) (hr : Room 0 (bodyX P w K mg base N_edit_back "edit_back" s_edit_back f cdv A outer s H E).A) (gd : (bodyX P w K mg base N_edit_back "edit_back" s_edit_back f cdv A outer s H E).A.guards = some []) : DSs (bodyX P w K mg base N_edit_back "edit_back" s_edit_back f cdv A outer s H E) (defBody s_edit_back) t_edit_back :=
  (ds_cons (ds_asg (de_of (pv 1)) (dg_tup rfl (dgs_cons (dg_name (i := 2) sc_edit_back.nd rfl (by first | exact Or.inl rfl | exact Or.inr rfl)) (dgs_cons (dg_name (i := 3) sc_edit_back.nd rfl (by first | exact Or.inl rfl | exact Or.inr rfl)) (dgs_cons (dg_name (i := 4) sc_edit_back.nd rfl (by first | exact Or.inl rfl | exact Or.inr rfl)) dgs_nil)))))
    (ds_one (ds_ret (de_tup (da_cons (de_of (pv 2)) (da_cons (de_op op_Add (de_of (pv 2)) (de_callB (call_Len) (by rfl) B.b_len (by decide +kernel) (da_cons (de_of (pv 4)) da_nil))) (da_cons (de_slice (de_of (pv 0)) (do_some (de_of (pv 2))) (do_some (de_of (pv 3)))) da_nil)))))))
theorem body_do_touch (B : Blt mg) (f : Addr) (cdv : Value) (A : Around) (outer : List Env) (s : Shared) (H : Hp) (E : XK) (hr : Room 0 (bodyX P w K mg base N_do_touch "do_touch" s_do_touch f cdv A outer s H E).A) (gd : (bodyX P w K mg base N_do_touch "do_touch" s_do_touch f cdv A outer s H E).A.guards = some []) : DSs (bodyX P w K mg base N_do_touch "do_touch" s_do_touch f cdv A outer s H E) (defBody s_do_touch) t_do_touch :=
  (ds_one (ds_ret (de_and (de_cmp op_Ge (de_ix (de_of (pv 0)) de_int) (de_ix (de_of (pv 1)) de_int)) (de_one (de_cmp op_Ge (de_ix (de_of (pv 1)) de_int) (de_ix (de_of (pv 0)) de_int))))))
theorem body__law_own_bag (B : Blt mg) (f : Addr) (cdv : Value) (A : Around) (outer : List Env) (s : Shared) (H : Hp) (E : XK) (hr : Room 0 (bodyX P w K mg base N__law_own_bag "_law_own_bag" s__law_own_bag f cdv A outer s H E).A) (gd : (bodyX P w K mg base N__law_own_bag "_law_own_bag" s__law_own_bag f cdv A outer s H E).A.guards = some []) : DSs (bodyX P w K mg base N__law_own_bag "_law_own_bag" s__law_own_bag f cdv A outer s H E) (defBody s__law_own_bag) t__law_own_bag :=
  (ds_cons (ds_setLc (i := 1) (own := [("cell", 3)]) rfl sc__law_own_bag.nd rfl rfl (sw_true rfl rfl rfl (by decide +kernel)) (di_any (de_slice (de_of (pv 0)) do_none (do_some de_int))) (blkOk_by (own := [("cell", 3)]) (N := N__law_own_bag) (sc := defScope s__law_own_bag) (by decide +kernel)) (fun _ _ _ _ _ => (dgw_name (i := 3) (by decide) sc__law_own_bag.nd rfl (by first | exact Or.inl rfl | exact Or.inr rfl))) (fun _ _ _ _ _ => dts_nil) (fun _ _ _ _ _ => (de_callB (call_Abs) (by rfl) B.b_abs (by decide +kernel) (da_cons (de_of (pv 3)) da_nil))))
    (ds_cons (ds_set (i := 2) sc__law_own_bag.nd rfl (by first | exact Or.inl rfl | exact Or.inr rfl) (de_op op_Add de_int (de_callB (call_Len) (by rfl) B.b_len (by decide +kernel) (da_cons (de_of (pv 1)) da_nil))))
    (ds_cons (ds_for PassesOwn.never rfl (di_any (de_of (pv 1))) (dg_name (i := 3) sc__law_own_bag.nd rfl (by first | exact Or.inl rfl | exact Or.inr rfl)) (ds_one (ds_set (i := 2) sc__law_own_bag.nd rfl (by first | exact Or.inl rfl | exact Or.inr rfl) (de_op op_Mod (de_op op_Add (de_op op_Add (de_op op_Mul (de_of (pv 2)) de_int) (de_op op_Mod (de_of (pv 3)) de_int)) de_int) de_int))))
    (ds_one (ds_ret (de_lst (da_cons (de_listRev rfl (by rfl) B.b_list (by rfl) B.b_reversed (de_of (pv 1))) (da_cons de_int (da_cons (de_of (pv 2)) da_nil)))))))))
theorem body__law_draw (B : Blt mg) (f : Addr) (cdv : Value) (A : Around) (outer : List Env) (s : Shared) (H : Hp) (E : XK) (hr : Room 0 (bodyX P w K mg base N__law_draw "_law_draw" s__law_draw f cdv A outer s H E).A) (gd : (bodyX P w K mg base N__law_draw "_law_draw" s__law_draw f cdv A outer s H E).A.guards = some []) : DSs (bodyX P w K mg base N__law_draw "_law_draw" s__law_draw f cdv A outer s H E) (defBody s__law_draw) t__law_draw :=
  (ds_cons (ds_while PassesOwn.never (dt_w (dw_and (dt_cmp (op_Eq (huR hr)) (de_ix (de_of (pv 0)) de_int) de_int) (dw_and1 (dt_cmp (op_Ne (huR hr)) (de_ix (de_of (pv 0)) de_int) (de_lst da_nil))))) (ds_cons (ds_set (i := 2) sc__law_draw.nd rfl (by first | exact Or.inl rfl | exact Or.inr rfl) (de_bm0 PySem.F.plainAttrs_list PySem.F.slot_list_pop PySem.F.type_list_pop mt_Pop (de_ix (de_of (pv 0)) de_int)))
    (ds_one (ds_asg (de_if (dt_cmp op_Gt (de_of (pv 2)) (de_op op_Pow de_int de_int)) (de_of (pv 2)) de_int) (dg_sub (de_of (pv 0)) de_int set_List)))))
    (ds_cons (ds_if (dt_cmp op_Gt (de_ix (de_of (pv 0)) de_int) de_int) (ds_cons (ds_set (i := 3) sc__law_draw.nd rfl (by first | exact Or.inl rfl | exact Or.inr rfl) (de_op op_Mod (de_ix (de_of (pv 0)) de_int) (de_of (pv 1))))
    (ds_cons (ds_asg (de_op op_Div (de_ix (de_of (pv 0)) de_int) (de_of (pv 1))) (dg_sub (de_of (pv 0)) de_int set_List))
    (ds_one (ds_ret (de_of (pv 3)))))) ds_nil)
    (ds_cons (ds_asg (de_op op_Mod (de_op op_Add (de_op op_Mul (de_ix (de_of (pv 0)) de_int) de_int) de_int) de_int) (dg_sub (de_of (pv 0)) de_int set_List))
    (ds_one (ds_ret (de_op op_Mod (de_op op_Div (de_op op_Mod (de_op op_Mul (de_ix (de_of (pv 0)) de_int) (de_ix (de_of (pv 0)) de_int)) de_int) de_int) (de_of (pv 1))))))))
theorem body__law_like (B : Blt mg) (f : Addr) (cdv : Value) (A : Around) (outer : List Env) (s : Shared) (H : Hp) (E : XK) (hr : Room 0 (bodyX P w K mg base N__law_like "_law_like" s__law_like f cdv A outer s H E).A) (gd : (bodyX P w K mg base N__law_like "_law_like" s__law_like f cdv A outer s H E).A.guards = some []) : DSs (bodyX P w K mg base N__law_like "_law_like" s__law_like f cdv A outer s H E) (defBody s__law_like) t__law_like :=
  (ds_one (ds_ret (de_and (de_cmp (op_Eq (huR hr)) (de_callB (call_Repr gd (huR hr)) (by rfl) B.b_repr (by decide +kernel) (da_cons (de_of (pv 0)) da_nil)) (de_callB (call_Repr gd (huR hr)) (by rfl) B.b_repr (by decide +kernel) (da_cons (de_of (pv 1)) da_nil))) (de_one (de_cmp (op_Eq (huR hr)) (de_of (pv 0)) (de_of (pv 1)))))))
theorem body__law_edit_due (B : Blt mg) (f : Addr) (cdv : Value) (A : Around) (outer : List Env) (s : Shared) (H : Hp) (E : XK) (hr : Room 0 (bodyX P w K mg base N__law_edit_due "_law_edit_due" s__law_edit_due f cdv A outer s H E).A) (gd : (bodyX P w K mg base N__law_edit_due "_law_edit_due" s__law_edit_due f cdv A outer s H E).A.guards = some []) : DSs (bodyX P w K mg base N__law_edit_due "_law_edit_due" s__law_edit_due f cdv A outer s H E) (defBody s__law_edit_due) t__law_edit_due :=
  (ds_cons (ds_if (dt_w (dw_or (dt_not (dt_truth (de_callB (call_Isi) (by rfl) B.b_isinstance (by decide +kernel) (da_cons (de_of (pv 1)) (da_cons (de_ty (by rfl) B.b_tuple (by decide +kernel)) da_nil))))) (dw_or1 (dt_cmp (op_Ne (huR hr)) (de_callB (call_Len) (by rfl) B.b_len (by decide +kernel) (da_cons (de_of (pv 1)) da_nil)) de_int)))) (ds_one (ds_ret de_str)) ds_nil)
    (ds_cons (ds_asg (de_of (pv 1)) (dg_tup rfl (dgs_cons (dg_name (i := 2) sc__law_edit_due.nd rfl (by first | exact Or.inl rfl | exact Or.inr rfl)) (dgs_cons (dg_name (i := 3) sc__law_edit_due.nd rfl (by first | exact Or.inl rfl | exact Or.inr rfl)) (dgs_cons (dg_name (i := 4) sc__law_edit_due.nd rfl (by first | exact Or.inl rfl | exact Or.inr rfl)) dgs_nil)))))
    (ds_cons (ds_for PassesOwn.never rfl (di_any (de_tup (da_cons (de_of (pv 2)) (da_cons (de_of (pv 3)) da_nil)))) (dg_name (i := 5) sc__law_edit_due.nd rfl (by first | exact Or.inl rfl | exact Or.inr rfl)) (ds_one (ds_if (dt_w (dw_or (dt_not (dt_truth (de_callB (call_Isi) (by rfl) B.b_isinstance (by decide +kernel) (da_cons (de_of (pv 5)) (da_cons (de_ty (by rfl) B.b_int (by decide +kernel)) da_nil))))) (dw_or1 (dt_truth (de_callB (call_Isi) (by rfl) B.b_isinstance (by decide +kernel) (da_cons (de_of (pv 5)) (da_cons (de_ty (by rfl) B.b_bool (by decide +kernel)) da_nil))))))) (ds_one (ds_ret de_str)) ds_nil)))
    (ds_cons (ds_if (dt_not (dt_truth (de_callB (call_Isi) (by rfl) B.b_isinstance (by decide +kernel) (da_cons (de_of (pv 4)) (da_cons (de_ty (by rfl) B.b_str (by decide +kernel)) da_nil))))) (ds_one (ds_ret de_str)) ds_nil)
    (ds_one (ds_ret (de_if (dt_w (dw_and (dt_cmp op_Le de_int (de_of (pv 2))) (dw_and (dt_cmp op_Le (de_of (pv 2)) (de_of (pv 3))) (dw_and1 (dt_cmp op_Le (de_of (pv 3)) (de_callB (call_Len) (by rfl) B.b_len (by decide +kernel) (da_cons (de_of (pv 0)) da_nil))))))) de_non de_str)))))))
theorem body__law_done (B : Blt mg) (f : Addr) (cdv : Value) (A : Around) (outer : List Env) (s : Shared) (H : Hp) (E : XK) (hr : Room 0 (bodyX P w K mg base N__law_done "_law_done" s__law_done f cdv A outer s H E).A) (gd : (bodyX P w K mg base N__law_done "_law_done" s__law_done f cdv A outer s H E).A.guards = some []) : DSs (bodyX P w K mg base N__law_done "_law_done" s__law_done f cdv A outer s H E) (defBody s__law_done) t__law_done :=
  (ds_cons (ds_asg (de_tup (da_cons de_str (da_cons de_int da_nil))) (dg_tup rfl (dgs_cons (dg_name (i := 2) sc__law_done.nd rfl (by first | exact Or.inl rfl | exact Or.inr rfl)) (dgs_cons (dg_name (i := 3) sc__law_done.nd rfl (by first | exact Or.inl rfl | exact Or.inr rfl)) dgs_nil))))
    (ds_cons (ds_for PassesOwn.never rfl (di_any (de_of (pv 1))) (dg_tup rfl (dgs_cons (dg_name (i := 4) sc__law_done.nd rfl (by first | exact Or.inl rfl | exact Or.inr rfl)) (dgs_cons (dg_name (i := 5) sc__law_done.nd rfl (by first | exact Or.inl rfl | exact Or.inr rfl)) (dgs_cons (dg_name (i := 6) sc__law_done.nd rfl (by first | exact Or.inl rfl | exact Or.inr rfl)) dgs_nil)))) (ds_one (ds_par (i := 2) (j := 3) rfl sc__law_done.nd rfl rfl (by decide) rfl rfl (da_cons (de_op op_Add (de_op op_Add (de_of (pv 2)) (de_slice (de_of (pv 0)) (do_some (de_of (pv 3))) (do_some (de_of (pv 4))))) (de_of (pv 6))) (da_cons (de_of (pv 5)) da_nil)) (by rfl))))
    (ds_one (ds_ret (de_op op_Add (de_of (pv 2)) (de_slice (de_of (pv 0)) (do_some (de_of (pv 3))) do_none))))))
theorem body__law_common (B : Blt mg) (f : Addr) (cdv : Value) (A : Around) (outer : List Env) (s : Shared) (H : Hp) (E : XK) (hr : Room 0 (bodyX P w K mg base N__law_common "_law_common" s__law_common f cdv A outer s H E).A) (gd : (bodyX P w K mg base N__law_common "_law_common" s__law_common f cdv A outer s H E).A.guards = some []) : DSs (bodyX P w K mg base N__law_common "_law_common" s__law_common f cdv A outer s H E) (defBody s__law_common) t__law_common :=
  (ds_cons (ds_par (i := 3) (j := 4) rfl sc__law_common.nd rfl rfl (by decide) rfl rfl (da_cons de_int (da_cons (de_of (pv 2)) da_nil)) (by rfl))
    (ds_cons (ds_for PassesOwn.never rfl (di_range1 (by rfl) B.b_range (da_cons de_int da_nil)) (dg_name (i := 5) sc__law_common.nd rfl (by first | exact Or.inl rfl | exact Or.inr rfl)) (ds_cons (ds_set (i := 6) sc__law_common.nd rfl (by first | exact Or.inl rfl | exact Or.inr rfl) (de_op op_Div (de_op op_Add (de_op op_Add (de_of (pv 3)) (de_of (pv 4))) de_int) de_int))
    (ds_one (ds_if (dt_cmp (op_Eq (huR hr)) (de_slice (de_of (pv 0)) do_none (do_some (de_of (pv 6)))) (de_slice (de_of (pv 1)) do_none (do_some (de_of (pv 6))))) (ds_one (ds_set (i := 3) sc__law_common.nd rfl (by first | exact Or.inl rfl | exact Or.inr rfl) (de_of (pv 6)))) (ds_one (ds_set (i := 4) sc__law_common.nd rfl (by first | exact Or.inl rfl | exact Or.inr rfl) (de_op op_Sub (de_of (pv 6)) de_int)))))))
    (ds_one (ds_ret (de_of (pv 3))))))
theorem body__law_is_least (B : Blt mg) (f : Addr) (cdv : Value) (A : Around) (outer : List Env) (s : Shared) (H : Hp) (E : XK) (hr : Room 0 (bodyX P w K mg base N__law_is_least "_law_is_least" s__law_is_least f cdv A outer s H E).A) (gd : (bodyX P w K mg base N__law_is_least "_law_is_least" s__law_is_least f cdv A outer s H E).A.guards = some []) : DSs (bodyX P w K mg base N__law_is_least "_law_is_least" s__law_is_least f cdv A outer s H E) (defBody s__law_is_least) t__law_is_least :=
  (ds_cons (ds_par (i := 3) (j := 4) rfl sc__law_is_least.nd rfl rfl (by decide) rfl rfl (da_cons (de_op op_Sub (de_ix (de_of (pv 2)) de_int) (de_ix (de_of (pv 2)) de_int)) (da_cons (de_callB (call_Len) (by rfl) B.b_len (by decide +kernel) (da_cons (de_ix (de_of (pv 2)) de_int) da_nil)) da_nil)) (by rfl))
    (ds_cons (ds_for PassesOwn.never rfl (di_range1 (by rfl) B.b_range (da_cons (de_op op_Add (de_callB (call_Len) (by rfl) B.b_len (by decide +kernel) (da_cons (de_of (pv 0)) da_nil)) de_int) da_nil)) (dg_name (i := 5) sc__law_is_least.nd rfl (by first | exact Or.inl rfl | exact Or.inr rfl)) (ds_cons (ds_if (dt_cmp (op_Ne (huR hr)) (de_slice (de_of (pv 0)) do_none (do_some (de_of (pv 5)))) (de_slice (de_of (pv 1)) do_none (do_some (de_of (pv 5))))) (ds_one ds_break) ds_nil)
    (ds_one (ds_for PassesOwn.never rfl (di_range2 (by rfl) B.b_range (da_cons (de_of (pv 5)) (da_cons (de_op op_Add (de_callB (call_Len) (by rfl) B.b_len (by decide +kernel) (da_cons (de_of (pv 0)) da_nil)) de_int) da_nil))) (dg_name (i := 6) sc__law_is_least.nd rfl (by first | exact Or.inl rfl | exact Or.inr rfl)) (ds_cons (ds_set (i := 7) sc__law_is_least.nd rfl (by first | exact Or.inl rfl | exact Or.inr rfl) (de_op op_Sub (de_op op_Sub (de_callB (call_Len) (by rfl) B.b_len (by decide +kernel) (da_cons (de_of (pv 1)) da_nil)) (de_of (pv 5))) (de_op op_Sub (de_callB (call_Len) (by rfl) B.b_len (by decide +kernel) (da_cons (de_of (pv 0)) da_nil)) (de_of (pv 6)))))
    (ds_one (ds_if (dt_w (dw_and (dt_cmp op_Ge (de_of (pv 7)) de_int) (dw_and (dt_cmp (op_Eq (huR hr)) (de_slice (de_of (pv 1)) (do_some (de_op op_Add (de_of (pv 5)) (de_of (pv 7)))) do_none) (de_slice (de_of (pv 0)) (do_some (de_of (pv 6))) do_none)) (dw_and1 (dt_w (dw_or (dt_cmp op_Lt (de_op op_Sub (de_of (pv 6)) (de_of (pv 5))) (de_of (pv 3))) (dw_or1 (dt_cmp op_Lt (de_of (pv 7)) (de_of (pv 4)))))))))) (ds_one (ds_ret de_bl)) ds_nil)))))))
    (ds_one (ds_ret de_bl))))
theorem body__law_wrong_edits (B : Blt mg) (f : Addr) (cdv : Value) (A : Around) (outer : List Env) (s : Shared) (H : Hp) (E : XK) (hr : Room 0 (bodyX P w K mg base N__law_wrong_edits "_law_wrong_edits" s__law_wrong_edits f cdv A outer s H E).A) (gd : (bodyX P w K mg base N__law_wrong_edits "_law_wrong_edits" s__law_wrong_edits f cdv A outer s H E).A.guards = some []) : DSs (bodyX P w K mg base N__law_wrong_edits "_law_wrong_edits" s__law_wrong_edits f cdv A outer s H E) (defBody s__law_wrong_edits) t__law_wrong_edits :=
  (ds_cons (ds_asg (de_of (pv 2)) (dg_tup rfl (dgs_cons (dg_name (i := 3) sc__law_wrong_edits.nd rfl (by first | exact Or.inl rfl | exact Or.inr rfl)) (dgs_cons (dg_name (i := 4) sc__law_wrong_edits.nd rfl (by first | exact Or.inl rfl | exact Or.inr rfl)) (dgs_cons (dg_name (i := 5) sc__law_wrong_edits.nd rfl (by first | exact Or.inl rfl | exact Or.inr rfl)) dgs_nil)))))
    (ds_cons (ds_set (i := 6) sc__law_wrong_edits.nd rfl (by first | exact Or.inl rfl | exact Or.inr rfl) (de_callB (call_Len) (by rfl) B.b_len (by decide +kernel) (da_cons (de_of (pv 1)) da_nil)))
    (ds_one (ds_ret (de_lst (da_cons de_non (da_cons (de_lst (da_cons (de_of (pv 3)) (da_cons (de_of (pv 4)) (da_cons (de_of (pv 5)) da_nil)))) (da_cons (de_tup (da_cons (de_of (pv 3)) (da_cons (de_of (pv 4)) da_nil))) (da_cons (de_tup (da_cons (de_of (pv 3)) (da_cons (de_of (pv 4)) (da_cons (de_of (pv 5)) (da_cons (de_of (pv 5)) da_nil))))) (da_cons (de_tup (da_cons (de_cmp (op_Eq (huR hr)) (de_of (pv 3)) de_int) (da_cons (de_of (pv 4)) (da_cons (de_of (pv 5)) da_nil)))) (da_cons (de_tup da_nil) (da_cons de_str (da_cons de_int (da_cons de_bl (da_cons (de_tup (da_cons (de_of (pv 3)) (da_cons (de_cmp (op_Eq (huR hr)) (de_of (pv 4)) de_int) (da_cons (de_of (pv 5)) da_nil)))) (da_cons (de_tup (da_cons de_bl (da_cons de_bl (da_cons (de_of (pv 5)) da_nil)))) (da_cons (de_tup (da_cons (de_callTy call_Str (by rfl) B.b_str (by decide +kernel) (da_cons (de_of (pv 3)) da_nil)) (da_cons (de_of (pv 4)) (da_cons (de_of (pv 5)) da_nil)))) (da_cons (de_tup (da_cons (de_of (pv 3)) (da_cons (de_lst (da_cons (de_of (pv 4)) da_nil)) (da_cons (de_of (pv 5)) da_nil)))) (da_cons de_dict0 (da_cons (de_tup (da_cons (de_of (pv 3)) (da_cons (de_of (pv 4)) (da_cons (de_lst (da_cons (de_of (pv 5)) da_nil)) da_nil)))) (da_cons (de_tup (da_cons (de_of (pv 3)) (da_cons (de_of (pv 4)) (da_cons de_int da_nil)))) (da_cons (de_tup (da_cons (de_un un_Neg de_int) (da_cons (de_of (pv 4)) (da_cons (de_of (pv 5)) da_nil)))) (da_cons (de_tup (da_cons (de_un un_Neg de_int) (da_cons (de_of (pv 4)) (da_cons de_int da_nil)))) (da_cons (de_tup (da_cons (de_un un_Neg de_int) (da_cons de_bl (da_cons (de_of (pv 5)) da_nil)))) (da_cons (de_tup (da_cons (de_of (pv 3)) (da_cons (de_of (pv 4)) (da_cons de_non da_nil)))) (da_cons (de_tup (da_cons (de_of (pv 3)) (da_cons (de_op op_Add (de_of (pv 6)) de_int) (da_cons (de_of (pv 5)) da_nil)))) (da_cons (de_tup (da_cons (de_op op_Add (de_of (pv 6)) de_int) (da_cons (de_op op_Add (de_of (pv 6)) de_int) (da_cons de_str da_nil)))) (da_cons (de_tup (da_cons (de_op op_Sub (de_of (pv 3)) de_int) (da_cons (de_of (pv 4)) (da_cons (de_of (pv 5)) da_nil)))) (da_cons (de_tup (da_cons (de_op op_Add (de_of (pv 4)) de_int) (da_cons (de_of (pv 4)) (da_cons (de_of (pv 5)) da_nil)))) (da_cons (de_tup (da_cons (de_of (pv 4)) (da_cons (de_of (pv 3)) (da_cons (de_of (pv 5)) da_nil)))) (da_cons (de_dict1 de_str (de_of (pv 3))) (da_cons (de_tup (da_cons (de_of (pv 3)) (da_cons (de_op op_Add (de_of (pv 4)) de_int) (da_cons (de_of (pv 5)) da_nil)))) (da_cons (de_tup (da_cons (de_of (pv 3)) (da_cons (de_op op_Sub (de_of (pv 3)) de_int) (da_cons (de_of (pv 5)) da_nil)))) (da_cons (de_tup (da_cons (de_op op_Pow de_int de_int) (da_cons (de_op op_Pow de_int de_int) (da_cons de_str da_nil)))) (da_cons (de_tup (da_cons (de_un un_Neg (de_op op_Pow de_int de_int)) (da_cons (de_of (pv 4)) (da_cons (de_of (pv 5)) da_nil)))) (da_cons (de_tup (da_cons de_int (da_cons (de_op op_Pow de_int de_int) (da_cons de_str da_nil)))) (da_cons (de_tup (da_cons (de_of (pv 3)) (da_cons (de_un un_Neg de_int) (da_cons (de_of (pv 5)) da_nil)))) (da_cons (de_tup (da_cons (de_tup (da_cons (de_of (pv 3)) (da_cons (de_of (pv 4)) (da_cons (de_of (pv 5)) da_nil)))) da_nil)) (da_cons (de_tup (da_cons (de_of (pv 3)) (da_cons (de_of (pv 4)) (da_cons (de_tup (da_cons (de_of (pv 5)) da_nil)) da_nil)))) (da_cons (de_tup (da_cons (de_of (pv 3)) (da_cons de_non (da_cons (de_of (pv 5)) da_nil)))) (da_cons (de_tup (da_cons (de_of (pv 5)) (da_cons (de_of (pv 3)) (da_cons (de_of (pv 4)) da_nil)))) da_nil)))))))))))))))))))))))))))))))))))))))))
theorem body__law_do_touch (B : Blt mg) (f : Addr) (cdv : Value) (A : Around) (outer : List Env) (s : Shared) (H : Hp) (E : XK) (hr : Room 0 (bodyX P w K mg base N__law_do_touch "_law_do_touch" s__law_do_touch f cdv A outer s H E).A) (gd : (bodyX P w K mg base N__law_do_touch "_law_do_touch" s__law_do_touch f cdv A outer s H E).A.guards = some []) : DSs (bodyX P w K mg base N__law_do_touch "_law_do_touch" s__law_do_touch f cdv A outer s H E) (defBody s__law_do_touch) t__law_do_touch :=
  (ds_one (ds_ret (de_not (de_or (de_cmp op_Lt (de_ix (de_of (pv 0)) de_int) (de_ix (de_of (pv 1)) de_int)) (de_one (de_cmp op_Lt (de_ix (de_of (pv 1)) de_int) (de_ix (de_of (pv 0)) de_int)))))))
theorem body_edit_error (B : Blt mg) (Fis_integer : Callee P w K mg base 1 "is_integer" s_is_integer ps_is_integer sp_is_integer) (f : Addr) (cdv : Value) (A : Around) (outer : List Env) (s : Shared) (H : Hp) (E : XK) (hr : Room 1 (bodyX P w K mg base N_edit_error "edit_error" s_edit_error f cdv A outer s H E).A) (gd : (bodyX P w K mg base N_edit_error "edit_error" s_edit_error f cdv A outer s H E).A.guards = some []) : DSs (bodyX P w K mg base N_edit_error "edit_error" s_edit_error f cdv A outer s H E) (defBody s_edit_error) t_edit_error :=
  (ds_cons (ds_if (dt_w (dw_or (dt_not (dt_truth (de_callB (call_Isi) (by rfl) B.b_isinstance (by decide +kernel) (da_cons (de_of (pv 1)) (da_cons (de_ty (by rfl) B.b_tuple (by decide +kernel)) da_nil))))) (dw_or (dt_cmp (op_Ne (huR hr)) (de_callB (call_Len) (by rfl) B.b_len (by decide +kernel) (da_cons (de_of (pv 1)) da_nil)) de_int) (dw_or (dt_not (dt_truth (de_cal Fis_integer hr (by decide) gd (by rfl) (da_cons (de_ix (de_of (pv 1)) de_int) da_nil)))) (dw_or1 (dt_not (dt_truth (de_cal Fis_integer hr (by decide) gd (by rfl) (da_cons (de_ix (de_of (pv 1)) de_int) da_nil))))))))) (ds_one (ds_ret de_str)) ds_nil)
    (ds_cons (ds_if (dt_not (dt_truth (de_callB (call_Isi) (by rfl) B.b_isinstance (by decide +kernel) (da_cons (de_ix (de_of (pv 1)) de_int) (da_cons (de_ty (by rfl) B.b_str (by decide +kernel)) da_nil))))) (ds_one (ds_ret de_str)) ds_nil)
    (ds_one (ds_ret (de_if (dt_chain3 op_Le op_Le op_Le de_int (de_ix (de_of (pv 1)) de_int) (de_ix (de_of (pv 1)) de_int) (de_callB (call_Len) (by rfl) B.b_len (by decide +kernel) (da_cons (de_of (pv 0)) da_nil))) de_non de_str)))))
theorem body_edits_done (B : Blt mg) (Fedit_done : Callee P w K mg base 1 "edit_done" s_edit_done ps_edit_done sp_edit_done) (f : Addr) (cdv : Value) (A : Around) (outer : List Env) (s : Shared) (H : Hp) (E : XK) (hr : Room 1 (bodyX P w K mg base N_edits_done "edits_done" s_edits_done f cdv A outer s H E).A) (gd : (bodyX P w K mg base N_edits_done "edits_done" s_edits_done f cdv A outer s H E).A.guards = some []) : DSs (bodyX P w K mg base N_edits_done "edits_done" s_edits_done f cdv A outer s H E) (defBody s_edits_done) t_edits_done :=
  (ds_cons (ds_for PassesOwn.never rfl (di_rev (by rfl) B.b_reversed (de_of (pv 1))) (dg_name (i := 2) sc_edits_done.nd rfl (by first | exact Or.inl rfl | exact Or.inr rfl)) (ds_one (ds_set (i := 0) sc_edits_done.nd rfl (by first | exact Or.inl rfl | exact Or.inr rfl) (de_cal Fedit_done hr (by decide) gd (by rfl) (da_cons (de_of (pv 0)) (da_cons (de_of (pv 2)) da_nil))))))
    (ds_one (ds_ret (de_of (pv 0)))))
theorem body__law_pick (B : Blt mg) (F_law_draw : Callee P w K mg base 1 "_law_draw" s__law_draw ps__law_draw sp__law_draw) (f : Addr) (cdv : Value) (A : Around) (outer : List Env) (s : Shared) (H : Hp) (E : XK) (hr : Room 1 (bodyX P w K mg base N__law_pick "_law_pick" s__law_pick f cdv A outer s H E).A) (gd : (bodyX P w K mg base N__law_pick "_law_pick" s__law_pick f cdv A outer s H E).A.guards = some []) : DSs (bodyX P w K mg base N__law_pick "_law_pick" s__law_pick f cdv A outer s H E) (defBody s__law_pick) t__law_pick :=
  (ds_one (ds_ret (de_ix (de_of (pv 1)) (de_cal F_law_draw hr (by decide) gd (by rfl) (da_cons (de_of (pv 0)) (da_cons (de_callB (call_Len) (by rfl) B.b_len (by decide +kernel) (da_cons (de_of (pv 1)) da_nil)) da_nil))))))
theorem body__law_edits_due (B : Blt mg) (F_law_edit_due : Callee P w K mg base 1 "_law_edit_due" s__law_edit_due ps__law_edit_due sp__law_edit_due) (f : Addr) (cdv : Value) (A : Around) (outer : List Env) (s : Shared) (H : Hp) (E : XK) (hr : Room 1 (bodyX P w K mg base N__law_edits_due "_law_edits_due" s__law_edits_due f cdv A outer s H E).A) (gd : (bodyX P w K mg base N__law_edits_due "_law_edits_due" s__law_edits_due f cdv A outer s H E).A.guards = some []) : DSs (bodyX P w K mg base N__law_edits_due "_law_edits_due" s__law_edits_due f cdv A outer s H E) (defBody s__law_edits_due) t__law_edits_due :=
  (ds_cons (ds_if (dt_not (dt_truth (de_callB (call_Isi) (by rfl) B.b_isinstance (by decide +kernel) (da_cons (de_of (pv 1)) (da_cons (de_ty (by rfl) B.b_tuple (by decide +kernel)) da_nil))))) (ds_one (ds_ret de_str)) ds_nil)
    (ds_cons (ds_for PassesOwn.never rfl (di_enum (by rfl) B.b_enumerate (da_cons (de_of (pv 1)) da_nil)) (dg_tup rfl (dgs_cons (dg_name (i := 2) sc__law_edits_due.nd rfl (by first | exact Or.inl rfl | exact Or.inr rfl)) (dgs_cons (dg_name (i := 3) sc__law_edits_due.nd rfl (by first | exact Or.inl rfl | exact Or.inr rfl)) dgs_nil))) (ds_cons (ds_set (i := 4) sc__law_edits_due.nd rfl (by first | exact Or.inl rfl | exact Or.inr rfl) (de_cal F_law_edit_due hr (by decide) gd (by rfl) (da_cons (de_of (pv 0)) (da_cons (de_of (pv 3)) da_nil))))
    (ds_one (ds_if (dt_cmp op_NotN (de_of (pv 4)) de_non) (ds_one (ds_ret (de_tup (da_cons de_str (da_cons (de_of (pv 2)) (da_cons (de_of (pv 4)) da_nil)))))) ds_nil))))
    (ds_cons (ds_for PassesOwn.never rfl (di_range2 (by rfl) B.b_range (da_cons de_int (da_cons (de_callB (call_Len) (by rfl) B.b_len (by decide +kernel) (da_cons (de_of (pv 1)) da_nil)) da_nil))) (dg_name (i := 2) sc__law_edits_due.nd rfl (by first | exact Or.inl rfl | exact Or.inr rfl)) (ds_one (ds_if (dt_cmp op_Le (de_ix (de_ix (de_of (pv 1)) (de_of (pv 2))) de_int) (de_ix (de_ix (de_of (pv 1)) (de_op op_Sub (de_of (pv 2)) de_int)) de_int)) (ds_one (ds_ret (de_tup (da_cons de_str (da_cons (de_of (pv 2)) da_nil))))) ds_nil)))
    (ds_one (ds_ret de_non)))))
theorem body__law_between (B : Blt mg) (F_law_common : Callee P w K mg base 1 "_law_common" s__law_common ps__law_common sp__law_common) (f : Addr) (cdv : Value) (A : Around) (outer : List Env) (s : Shared) (H : Hp) (E : XK) (hr : Room 1 (bodyX P w K mg base N__law_between "_law_between" s__law_between f cdv A outer s H E).A) (gd : (bodyX P w K mg base N__law_between "_law_between" s__law_between f cdv A outer s H E).A.guards = some []) : DSs (bodyX P w K mg base N__law_between "_law_between" s__law_between f cdv A outer s H E) (defBody s__law_between) t__law_between :=
  (ds_cons (ds_set (i := 2) sc__law_between.nd rfl (by first | exact Or.inl rfl | exact Or.inr rfl) (de_callB (call_Min rfl) (by rfl) B.b_min (by decide +kernel) (da_cons (de_callB (call_Len) (by rfl) B.b_len (by decide +kernel) (da_cons (de_of (pv 0)) da_nil)) (da_cons (de_callB (call_Len) (by rfl) B.b_len (by decide +kernel) (da_cons (de_of (pv 1)) da_nil)) da_nil))))
    (ds_cons (ds_set (i := 3) sc__law_between.nd rfl (by first | exact Or.inl rfl | exact Or.inr rfl) (de_cal F_law_common hr (by decide) gd (by rfl) (da_cons (de_of (pv 0)) (da_cons (de_of (pv 1)) (da_cons (de_of (pv 2)) da_nil)))))
    (ds_cons (ds_set (i := 4) sc__law_between.nd rfl (by first | exact Or.inl rfl | exact Or.inr rfl) (de_cal F_law_common hr (by decide) gd (by rfl) (da_cons (de_back (de_of (pv 0))) (da_cons (de_back (de_of (pv 1))) (da_cons (de_op op_Sub (de_of (pv 2)) (de_of (pv 3))) da_nil)))))
    (ds_one (ds_ret (de_tup (da_cons (de_of (pv 3)) (da_cons (de_op op_Sub (de_callB (call_Len) (by rfl) B.b_len (by decide +kernel) (da_cons (de_of (pv 0)) da_nil)) (de_of (pv 4))) (da_cons (de_slice (de_of (pv 1)) (do_some (de_of (pv 3))) (do_some (de_op op_Sub (de_callB (call_Len) (by rfl) B.b_len (by decide +kernel) (da_cons (de_of (pv 1)) da_nil)) (de_of (pv 4))))) da_nil)))))))))
theorem body_edits_error (B : Blt mg) (Fedit_error : Callee P w K mg base 2 "edit_error" s_edit_error ps_edit_error sp_edit_error) (f : Addr) (cdv : Value) (A : Around) (outer : List Env) (s : Shared) (H : Hp) (E : XK) (hr : Room 2 (bodyX P w K mg base N_edits_error "edits_error" s_edits_error f cdv A outer s H E).A) (gd : (bodyX P w K mg base N_edits_error "edits_error" s_edits_error f cdv A outer s H E).A.guards = some []) : DSs (bodyX P w K mg base N_edits_error "edits_error" s_edits_error f cdv A outer s H E) (defBody s_edits_error) t_edits_error :=
  (ds_cons (ds_if (dt_not (dt_truth (de_callB (call_Isi) (by rfl) B.b_isinstance (by decide +kernel) (da_cons (de_of (pv 1)) (da_cons (de_ty (by rfl) B.b_tuple (by decide +kernel)) da_nil))))) (ds_one (ds_ret de_str)) ds_nil)
    (ds_cons (ds_for PassesOwn.never rfl (di_enum (by rfl) B.b_enumerate (da_cons (de_of (pv 1)) da_nil)) (dg_tup rfl (dgs_cons (dg_name (i := 2) sc_edits_error.nd rfl (by first | exact Or.inl rfl | exact Or.inr rfl)) (dgs_cons (dg_name (i := 3) sc_edits_error.nd rfl (by first | exact Or.inl rfl | exact Or.inr rfl)) dgs_nil))) (ds_cons (ds_set (i := 4) sc_edits_error.nd rfl (by first | exact Or.inl rfl | exact Or.inr rfl) (de_cal Fedit_error hr (by decide) gd (by rfl) (da_cons (de_of (pv 0)) (da_cons (de_of (pv 3)) da_nil))))
    (ds_one (ds_if (dt_cmp op_NotN (de_of (pv 4)) de_non) (ds_one (ds_ret (de_tup (da_cons de_str (da_cons (de_of (pv 2)) (da_cons (de_of (pv 4)) da_nil)))))) ds_nil))))
    (ds_cons (ds_for PassesOwn.never rfl (di_range2 (by rfl) B.b_range (da_cons de_int (da_cons (de_callB (call_Len) (by rfl) B.b_len (by decide +kernel) (da_cons (de_of (pv 1)) da_nil)) da_nil))) (dg_name (i := 2) sc_edits_error.nd rfl (by first | exact Or.inl rfl | exact Or.inr rfl)) (ds_one (ds_if (dt_cmp op_Le (de_ix (de_ix (de_of (pv 1)) (de_of (pv 2))) de_int) (de_ix (de_ix (de_of (pv 1)) (de_op op_Sub (de_of (pv 2)) de_int)) de_int)) (ds_one (ds_ret (de_tup (da_cons de_str (da_cons (de_of (pv 2)) da_nil))))) ds_nil)))
    (ds_one (ds_ret de_non)))))
theorem body__law_signs (B : Blt mg) (F_law_pick : Callee P w K mg base 2 "_law_pick" s__law_pick ps__law_pick sp__law_pick) (F_law_draw : Callee P w K mg base 1 "_law_draw" s__law_draw ps__law_draw sp__law_draw) (f : Addr) (cdv : Value) (A : Around) (outer : List Env) (s : Shared) (H : Hp) (E : XK) (hr : Room 2 (bodyX P w K mg base N__law_signs "_law_signs" s__law_signs f cdv A outer s H E).A) (gd : (bodyX P w K mg base N__law_signs "_law_signs" s__law_signs f cdv A outer s H E).A.guards = some []) : DSs (bodyX P w K mg base N__law_signs "_law_signs" s__law_signs f cdv A outer s H E) (defBody s__law_signs) t__law_signs :=
  (ds_cons (ds_set (i := 2) sc__law_signs.nd rfl (by first | exact Or.inl rfl | exact Or.inr rfl) (de_cal F_law_pick hr (by decide) gd (by rfl) (da_cons (de_of (pv 0)) (da_cons (de_lst (da_cons de_str (da_cons de_str (da_cons de_str (da_cons de_str (da_cons de_str (da_cons de_str da_nil))))))) da_nil))))
    (ds_cons (ds_if (dt_cmp (op_Eq (huR hr)) (de_cal F_law_draw hr (by decide) gd (by rfl) (da_cons (de_of (pv 0)) (da_cons de_int da_nil))) de_int) (ds_cons (ds_set (i := 3) sc__law_signs.nd rfl (by first | exact Or.inl rfl | exact Or.inr rfl) (de_m1 PySem.F.slot_str_join PySem.F.type_str_join mt_Join de_str (de_lc (own := [("turn", 4)]) rfl sc__law_signs.nd (di_range1 (by rfl) B.b_range (da_cons (de_op op_Add de_int (de_cal F_law_draw hr (by decide) gd (by rfl) (da_cons (de_of (pv 0)) (da_cons de_int da_nil)))) da_nil)) (blkOk_by (own := [("turn", 4)]) (N := N__law_signs) (sc := defScope s__law_signs) (by decide +kernel)) (fun _ _ _ _ _ => (dgw_name (i := 4) (by decide) sc__law_signs.nd rfl (by first | exact Or.inl rfl | exact Or.inr rfl))) (fun _ _ _ _ _ => dts_nil) (fun _ _ _ _ _ => (de_cal F_law_pick hr (by decide) gd (by rfl) (da_cons (de_of (pv 0)) (da_cons (de_of (pv 2)) da_nil)))))))
    (ds_one (ds_ret (de_slice (de_op op_Mul (de_of (pv 3)) de_int) do_none (do_some (de_of (pv 1))))))) ds_nil)
    (ds_one (ds_ret (de_m1 PySem.F.slot_str_join PySem.F.type_str_join mt_Join de_str (de_lc (own := [("turn", 4)]) rfl sc__law_signs.nd (di_range1 (by rfl) B.b_range (da_cons (de_of (pv 1)) da_nil)) (blkOk_by (own := [("turn", 4)]) (N := N__law_signs) (sc := defScope s__law_signs) (by decide +kernel)) (fun _ _ _ _ _ => (dgw_name (i := 4) (by decide) sc__law_signs.nd rfl (by first | exact Or.inl rfl | exact Or.inr rfl))) (fun _ _ _ _ _ => dts_nil) (fun _ _ _ _ _ => (de_cal F_law_pick hr (by decide) gd (by rfl) (da_cons (de_of (pv 0)) (da_cons (de_of (pv 2)) da_nil))))))))))
theorem body__law_is_edit_right (B : Blt mg) (F_law_done : Callee P w K mg base 1 "_law_done" s__law_done ps__law_done sp__law_done) (Fedit_back : Callee P w K mg base 1 "edit_back" s_edit_back ps_edit_back sp_edit_back) (Fedit_done : Callee P w K mg base 1 "edit_done" s_edit_done ps_edit_done sp_edit_done) (Fedit_error : Callee P w K mg base 2 "edit_error" s_edit_error ps_edit_error sp_edit_error) (F_law_like : Callee P w K mg base 1 "_law_like" s__law_like ps__law_like sp__law_like) (f : Addr) (cdv : Value) (A : Around) (outer : List Env) (s : Shared) (H : Hp) (E : XK) (hr : Room 2 (bodyX P w K mg base N__law_is_edit_right "_law_is_edit_right" s__law_is_edit_right f cdv A outer s H E).A) (gd : (bodyX P w K mg base N__law_is_edit_right "_law_is_edit_right" s__law_is_edit_right f cdv A outer s H E).A.guards = some []) : DSs (bodyX P w K mg base N__law_is_edit_right "_law_is_edit_right" s__law_is_edit_right f cdv A outer s H E) (defBody s__law_is_edit_right) t__law_is_edit_right :=
  (ds_cons (ds_par (i := 2) (j := 3) rfl sc__law_is_edit_right.nd rfl rfl (by decide) rfl rfl (da_cons (de_cal F_law_done hr (by decide) gd (by rfl) (da_cons (de_of (pv 0)) (da_cons (de_lst (da_cons (de_of (pv 1)) da_nil)) da_nil))) (da_cons (de_tup (da_cons (de_ix (de_of (pv 1)) de_int) (da_cons (de_op op_Add (de_ix (de_of (pv 1)) de_int) (de_callB (call_Len) (by rfl) B.b_len (by decide +kernel) (da_cons (de_ix (de_of (pv 1)) de_int) da_nil))) (da_cons (de_slice (de_of (pv 0)) (do_some (de_ix (de_of (pv 1)) de_int)) (do_some (de_ix (de_of (pv 1)) de_int))) da_nil)))) da_nil)) (by rfl))
    (ds_cons (ds_set (i := 4) sc__law_is_edit_right.nd rfl (by first | exact Or.inl rfl | exact Or.inr rfl) (de_lst (da_cons (de_cal Fedit_done hr (by decide) gd (by rfl) (da_cons (de_of (pv 0)) (da_cons (de_of (pv 1)) da_nil))) (da_cons (de_calK (ks := ["text", "edit"]) (π := [0, 1]) Fedit_done hr (by decide) gd (by rfl) (fun _ _ _ _ _ _ ws hl => match ws, hl with | [_, _], _ => rfl) (by decide) (dk_cons (de_of (pv 0)) (dk_cons (de_of (pv 1)) dk_nil))) (da_cons (de_cal Fedit_back hr (by decide) gd (by rfl) (da_cons (de_of (pv 0)) (da_cons (de_of (pv 1)) da_nil))) da_nil)))))
    (ds_cons (ds_set (i := 4) sc__law_is_edit_right.nd rfl (by first | exact Or.inl rfl | exact Or.inr rfl) (de_op op_Add (de_of (pv 4)) (de_lst (da_cons (de_calK (ks := ["text", "edit"]) (π := [0, 1]) Fedit_back hr (by decide) gd (by rfl) (fun _ _ _ _ _ _ ws hl => match ws, hl with | [_, _], _ => rfl) (by decide) (dk_cons (de_of (pv 0)) (dk_cons (de_of (pv 1)) dk_nil))) (da_cons (de_cal Fedit_error hr (by decide) gd (by rfl) (da_cons (de_of (pv 0)) (da_cons (de_of (pv 1)) da_nil))) (da_cons (de_calK (ks := ["text", "value"]) (π := [0, 1]) Fedit_error hr (by decide) gd (by rfl) (fun _ _ _ _ _ _ ws hl => match ws, hl with | [_, _], _ => rfl) (by decide) (dk_cons (de_of (pv 0)) (dk_cons (de_of (pv 1)) dk_nil))) da_nil))))))
    (ds_cons (ds_if (dt_not (dt_truth (de_cal F_law_like hr (by decide) gd (by rfl) (da_cons (de_of (pv 4)) (da_cons (de_lst (da_cons (de_of (pv 2)) (da_cons (de_of (pv 2)) (da_cons (de_of (pv 3)) (da_cons (de_of (pv 3)) (da_cons de_non (da_cons de_non da_nil))))))) da_nil))))) (ds_one (ds_ret de_bl)) ds_nil)
    (ds_one (ds_ret (de_cal F_law_like hr (by decide) gd (by rfl) (da_cons (de_lst (da_cons (de_cal Fedit_done hr (by decide) gd (by rfl) (da_cons (de_of (pv 2)) (da_cons (de_of (pv 3)) da_nil))) (da_cons (de_cal Fedit_back hr (by decide) gd (by rfl) (da_cons (de_of (pv 2)) (da_cons (de_of (pv 3)) da_nil))) (da_cons (de_cal Fedit_error hr (by decide) gd (by rfl) (da_cons (de_of (pv 2)) (da_cons (de_of (pv 3)) da_nil))) da_nil)))) (da_cons (de_lst (da_cons (de_of (pv 0)) (da_cons (de_of (pv 1)) (da_cons de_non da_nil)))) da_nil)))))))))
theorem body__law_is_between_right (B : Blt mg) (F_law_between : Callee P w K mg base 2 "_law_between" s__law_between ps__law_between sp__law_between) (Fedit_done : Callee P w K mg base 1 "edit_done" s_edit_done ps_edit_done sp_edit_done) (Fedit_between : Callee P w K mg base 1 "edit_between" s_edit_between ps_edit_between sp_edit_between) (F_law_like : Callee P w K mg base 1 "_law_like" s__law_like ps__law_like sp__law_like) (F_law_is_least : Callee P w K mg base 1 "_law_is_least" s__law_is_least ps__law_is_least sp__law_is_least) (f : Addr) (cdv : Value) (A : Around) (outer : List Env) (s : Shared) (H : Hp) (E : XK) (hr : Room 2 (bodyX P w K mg base N__law_is_between_right "_law_is_between_right" s__law_is_between_right f cdv A outer s H E).A) (gd : (bodyX P w K mg base N__law_is_between_right "_law_is_between_right" s__law_is_between_right f cdv A outer s H E).A.guards = some []) : DSs (bodyX P w K mg base N__law_is_between_right "_law_is_between_right" s__law_is_between_right f cdv A outer s H E) (defBody s__law_is_between_right) t__law_is_between_right :=
  (ds_cons (ds_set (i := 3) sc__law_is_between_right.nd rfl (by first | exact Or.inl rfl | exact Or.inr rfl) (de_cal F_law_between hr (by decide) gd (by rfl) (da_cons (de_of (pv 1)) (da_cons (de_of (pv 2)) da_nil))))
    (ds_cons (ds_set (i := 4) sc__law_is_between_right.nd rfl (by first | exact Or.inl rfl | exact Or.inr rfl) (de_lst (da_cons (de_cal Fedit_between hr (by decide) gd (by rfl) (da_cons (de_of (pv 1)) (da_cons (de_of (pv 2)) da_nil))) (da_cons (de_calK (ks := ["text", "other"]) (π := [0, 1]) Fedit_between hr (by decide) gd (by rfl) (fun _ _ _ _ _ _ ws hl => match ws, hl with | [_, _], _ => rfl) (by decide) (dk_cons (de_of (pv 1)) (dk_cons (de_of (pv 2)) dk_nil))) (da_cons (de_cal Fedit_done hr (by decide) gd (by rfl) (da_cons (de_of (pv 1)) (da_cons (de_of (pv 3)) da_nil))) da_nil)))))
    (ds_cons (ds_if (dt_not (dt_truth (de_cal F_law_like hr (by decide) gd (by rfl) (da_cons (de_of (pv 4)) (da_cons (de_lst (da_cons (de_of (pv 3)) (da_cons (de_of (pv 3)) (da_cons (de_of (pv 2)) da_nil)))) da_nil))))) (ds_one (ds_ret de_bl)) ds_nil)
    (ds_cons (ds_set (i := 5) sc__law_is_between_right.nd rfl (by first | exact Or.inl rfl | exact Or.inr rfl) (de_cal F_law_between hr (by decide) gd (by rfl) (da_cons (de_of (pv 2)) (da_cons (de_of (pv 1)) da_nil))))
    (ds_one (ds_ret (de_and (de_cal F_law_like hr (by decide) gd (by rfl) (da_cons (de_cal Fedit_between hr (by decide) gd (by rfl) (da_cons (de_of (pv 2)) (da_cons (de_of (pv 1)) da_nil))) (da_cons (de_of (pv 5)) da_nil))) (de_one (de_or (de_cmp op_Gt (de_callB (call_Len) (by rfl) B.b_len (by decide +kernel) (da_cons (de_of (pv 1)) da_nil)) de_int) (de_one (de_cal F_law_is_least hr (by decide) gd (by rfl) (da_cons (de_of (pv 1)) (da_cons (de_of (pv 2)) (da_cons (de_ix (de_of (pv 4)) de_int) da_nil))))))))))))))
theorem body__law_are_errors_right (B : Blt mg) (F_law_pick : Callee P w K mg base 2 "_law_pick" s__law_pick ps__law_pick sp__law_pick) (F_law_wrong_edits : Callee P w K mg base 1 "_law_wrong_edits" s__law_wrong_edits ps__law_wrong_edits sp__law_wrong_edits) (F_law_edit_due : Callee P w K mg base 1 "_law_edit_due" s__law_edit_due ps__law_edit_due sp__law_edit_due) (Fedit_error : Callee P w K mg base 2 "edit_error" s_edit_error ps_edit_error sp_edit_error) (F_law_like : Callee P w K mg base 1 "_law_like" s__law_like ps__law_like sp__law_like) (f : Addr) (cdv : Value) (A : Around) (outer : List Env) (s : Shared) (H : Hp) (E : XK) (hr : Room 2 (bodyX P w K mg base N__law_are_errors_right "_law_are_errors_right" s__law_are_errors_right f cdv A outer s H E).A) (gd : (bodyX P w K mg base N__law_are_errors_right "_law_are_errors_right" s__law_are_errors_right f cdv A outer s H E).A.guards = some []) : DSs (bodyX P w K mg base N__law_are_errors_right "_law_are_errors_right" s__law_are_errors_right f cdv A outer s H E) (defBody s__law_are_errors_right) t__law_are_errors_right :=
  (ds_cons (ds_for PassesOwn.never rfl (di_range1 (by rfl) B.b_range (da_cons de_int da_nil)) (dg_name (i := 3) sc__law_are_errors_right.nd rfl (by first | exact Or.inl rfl | exact Or.inr rfl)) (ds_cons (ds_set (i := 4) sc__law_are_errors_right.nd rfl (by first | exact Or.inl rfl | exact Or.inr rfl) (de_cal F_law_pick hr (by decide) gd (by rfl) (da_cons (de_of (pv 0)) (da_cons (de_cal F_law_wrong_edits hr (by decide) gd (by rfl) (da_cons (de_of (pv 0)) (da_cons (de_of (pv 1)) (da_cons (de_of (pv 2)) da_nil)))) da_nil))))
    (ds_cons (ds_par (i := 5) (j := 6) rfl sc__law_are_errors_right.nd rfl rfl (by decide) rfl rfl (da_cons (de_callB (call_Repr gd (huR hr)) (by rfl) B.b_repr (by decide +kernel) (da_cons (de_of (pv 4)) da_nil)) (da_cons (de_cal F_law_edit_due hr (by decide) gd (by rfl) (da_cons (de_of (pv 1)) (da_cons (de_of (pv 4)) da_nil))) da_nil)) (by rfl))
    (ds_cons (ds_set (i := 7) sc__law_are_errors_right.nd rfl (by first | exact Or.inl rfl | exact Or.inr rfl) (de_lst (da_cons (de_cal Fedit_error hr (by decide) gd (by rfl) (da_cons (de_of (pv 1)) (da_cons (de_of (pv 4)) da_nil))) (da_cons (de_calK (ks := ["text", "value"]) (π := [0, 1]) Fedit_error hr (by decide) gd (by rfl) (fun _ _ _ _ _ _ ws hl => match ws, hl with | [_, _], _ => rfl) (by decide) (dk_cons (de_of (pv 1)) (dk_cons (de_of (pv 4)) dk_nil))) da_nil))))
    (ds_one (ds_if (dt_w (dw_or (dt_not (dt_truth (de_cal F_law_like hr (by decide) gd (by rfl) (da_cons (de_of (pv 7)) (da_cons (de_lst (da_cons (de_of (pv 6)) (da_cons (de_of (pv 6)) da_nil))) da_nil))))) (dw_or1 (dt_cmp (op_Ne (huR hr)) (de_callB (call_Repr gd (huR hr)) (by rfl) B.b_repr (by decide +kernel) (da_cons (de_of (pv 4)) da_nil)) (de_of (pv 5)))))) (ds_one (ds_ret de_bl)) ds_nil))))))
    (ds_one (ds_ret de_bl)))
theorem body__law_some_edits (B : Blt mg) (F_law_pick : Callee P w K mg base 2 "_law_pick" s__law_pick ps__law_pick sp__law_pick) (F_law_draw : Callee P w K mg base 1 "_law_draw" s__law_draw ps__law_draw sp__law_draw) (F_law_wrong_edits : Callee P w K mg base 1 "_law_wrong_edits" s__law_wrong_edits ps__law_wrong_edits sp__law_wrong_edits) (f : Addr) (cdv : Value) (A : Around) (outer : List Env) (s : Shared) (H : Hp) (E : XK) (hr : Room 2 (bodyX P w K mg base N__law_some_edits "_law_some_edits" s__law_some_edits f cdv A outer s H E).A) (gd : (bodyX P w K mg base N__law_some_edits "_law_some_edits" s__law_some_edits f cdv A outer s H E).A.guards = some []) : DSs (bodyX P w K mg base N__law_some_edits "_law_some_edits" s__law_some_edits f cdv A outer s H E) (defBody s__law_some_edits) t__law_some_edits :=
  (ds_cons (ds_par (i := 3) (j := 4) rfl sc__law_some_edits.nd rfl rfl (by decide) rfl rfl (da_cons (de_callB (call_Len) (by rfl) B.b_len (by decide +kernel) (da_cons (de_of (pv 2)) da_nil)) (da_cons (de_callTy call_List (by rfl) B.b_list (by decide +kernel) (da_cons (de_of (pv 2)) da_nil)) da_nil)) (by rfl))
    (ds_cons (ds_set (i := 5) sc__law_some_edits.nd rfl (by first | exact Or.inl rfl | exact Or.inr rfl) (de_lst (da_cons (de_of (pv 2)) (da_cons (de_of (pv 4)) (da_cons (de_back (de_of (pv 2))) (da_cons (de_op op_Add (de_of (pv 2)) (de_slice (de_of (pv 2)) (do_some (de_un un_Neg de_int)) do_none)) (da_cons (de_op op_Add (de_slice (de_of (pv 2)) do_none (do_some de_int)) (de_of (pv 2))) (da_cons de_non (da_cons (de_tup da_nil) (da_cons de_str (da_cons de_dict0 (da_cons de_int (da_cons (de_tup (da_cons de_non da_nil)) (da_cons (de_tup (da_cons (de_of (pv 2)) da_nil)) da_nil))))))))))))))
    (ds_cons (ds_if (dt_cmp op_Gt (de_of (pv 3)) de_int) (ds_cons (ds_set (i := 6) sc__law_some_edits.nd rfl (by first | exact Or.inl rfl | exact Or.inr rfl) (de_cal F_law_pick hr (by decide) gd (by rfl) (da_cons (de_of (pv 0)) (da_cons (de_lst (da_cons de_int (da_cons (de_op op_Sub (de_of (pv 3)) de_int) (da_cons (de_cal F_law_draw hr (by decide) gd (by rfl) (da_cons (de_of (pv 0)) (da_cons (de_of (pv 3)) da_nil))) da_nil)))) da_nil))))
    (ds_cons (ds_asg (de_ix (de_of (pv 2)) (de_of (pv 6))) (dg_tup rfl (dgs_cons (dg_name (i := 7) sc__law_some_edits.nd rfl (by first | exact Or.inl rfl | exact Or.inr rfl)) (dgs_cons (dg_name (i := 8) sc__law_some_edits.nd rfl (by first | exact Or.inl rfl | exact Or.inr rfl)) (dgs_cons (dg_name (i := 9) sc__law_some_edits.nd rfl (by first | exact Or.inl rfl | exact Or.inr rfl)) dgs_nil)))))
    (ds_cons (ds_set (i := 10) sc__law_some_edits.nd rfl (by first | exact Or.inl rfl | exact Or.inr rfl) (de_cal F_law_pick hr (by decide) gd (by rfl) (da_cons (de_of (pv 0)) (da_cons (de_cal F_law_wrong_edits hr (by decide) gd (by rfl) (da_cons (de_of (pv 0)) (da_cons (de_of (pv 1)) (da_cons (de_ix (de_of (pv 2)) (de_of (pv 6))) da_nil)))) da_nil))))
    (ds_cons (ds_set (i := 11) sc__law_some_edits.nd rfl (by first | exact Or.inl rfl | exact Or.inr rfl) (de_cal F_law_pick hr (by decide) gd (by rfl) (da_cons (de_of (pv 0)) (da_cons (de_cal F_law_wrong_edits hr (by decide) gd (by rfl) (da_cons (de_of (pv 0)) (da_cons (de_of (pv 1)) (da_cons (de_ix (de_of (pv 2)) (de_un un_Neg de_int)) da_nil)))) da_nil))))
    (ds_cons (ds_par (i := 12) (j := 13) rfl sc__law_some_edits.nd rfl rfl (by decide) rfl rfl (da_cons (de_slice (de_of (pv 2)) do_none (do_some (de_of (pv 6)))) (da_cons (de_slice (de_of (pv 2)) (do_some (de_op op_Add (de_of (pv 6)) de_int)) do_none) da_nil)) (by rfl))
    (ds_cons (ds_set (i := 5) sc__law_some_edits.nd rfl (by first | exact Or.inl rfl | exact Or.inr rfl) (de_op op_Add (de_of (pv 5)) (de_lst (da_cons (de_op op_Add (de_op op_Add (de_of (pv 12)) (de_tup (da_cons (de_of (pv 10)) da_nil))) (de_of (pv 13))) (da_cons (de_op op_Add (de_slice (de_of (pv 2)) do_none (do_some (de_un un_Neg de_int))) (de_tup (da_cons (de_of (pv 11)) da_nil))) (da_cons (de_op op_Add (de_op op_Add (de_of (pv 12)) (de_tup (da_cons (de_of (pv 10)) da_nil))) (de_slice (de_of (pv 2)) (do_some (de_of (pv 6))) do_none)) da_nil))))))
    (ds_cons (ds_set (i := 5) sc__law_some_edits.nd rfl (by first | exact Or.inl rfl | exact Or.inr rfl) (de_op op_Add (de_of (pv 5)) (de_lst (da_cons (de_op op_Add (de_op op_Add (de_of (pv 12)) (de_tup (da_cons (de_tup (da_cons (de_of (pv 7)) (da_cons (de_of (pv 8)) (da_cons (de_op op_Add (de_of (pv 9)) de_str) da_nil)))) da_nil))) (de_slice (de_of (pv 2)) (do_some (de_of (pv 6))) do_none)) (da_cons (de_op op_Add (de_of (pv 2)) (de_tup (da_cons (de_tup (da_cons (de_of (pv 7)) (da_cons (de_of (pv 7)) (da_cons de_str da_nil)))) (da_cons (de_of (pv 10)) da_nil)))) da_nil)))))
    (ds_cons (ds_set (i := 5) sc__law_some_edits.nd rfl (by first | exact Or.inl rfl | exact Or.inr rfl) (de_op op_Add (de_of (pv 5)) (de_lst (da_cons (de_op op_Add (de_op op_Add (de_of (pv 12)) (de_tup (da_cons (de_ix (de_of (pv 2)) (de_of (pv 6))) (da_cons (de_tup (da_cons (de_of (pv 8)) (da_cons (de_of (pv 8)) (da_cons de_str da_nil)))) da_nil)))) (de_of (pv 13))) (da_cons (de_op op_Add (de_tup (da_cons (de_of (pv 10)) da_nil)) (de_back (de_of (pv 2)))) da_nil)))))
    (ds_cons (ds_set (i := 5) sc__law_some_edits.nd rfl (by first | exact Or.inl rfl | exact Or.inr rfl) (de_op op_Add (de_of (pv 5)) (de_lst (da_cons (de_op op_Add (de_op op_Add (de_of (pv 12)) (de_tup (da_cons (de_tup (da_cons (de_of (pv 7)) (da_cons (de_callB (call_Len) (by rfl) B.b_len (by decide +kernel) (da_cons (de_of (pv 1)) da_nil)) (da_cons de_str da_nil)))) da_nil))) (de_of (pv 13))) (da_cons (de_op op_Add (de_of (pv 2)) (de_tup (da_cons (de_tup (da_cons (de_of (pv 8)) (da_cons (de_op op_Add (de_of (pv 8)) de_int) (da_cons (de_of (pv 9)) da_nil)))) da_nil))) da_nil)))))
    (ds_cons (ds_set (i := 5) sc__law_some_edits.nd rfl (by first | exact Or.inl rfl | exact Or.inr rfl) (de_op op_Add (de_of (pv 5)) (de_lst (da_cons (de_op op_Add (de_of (pv 2)) (de_tup (da_cons (de_tup (da_cons (de_op op_Add (de_of (pv 8)) de_int) (da_cons (de_op op_Add (de_of (pv 8)) de_int) (da_cons de_str da_nil)))) da_nil))) (da_cons (de_op op_Add (de_op op_Add (de_of (pv 12)) (de_tup (da_cons (de_tup (da_cons (de_of (pv 7)) (da_cons (de_op op_Add (de_of (pv 8)) de_int) (da_cons (de_of (pv 9)) da_nil)))) da_nil))) (de_of (pv 13))) da_nil)))))
    (ds_one (ds_set (i := 5) sc__law_some_edits.nd rfl (by first | exact Or.inl rfl | exact Or.inr rfl) (de_op op_Add (de_of (pv 5)) (de_lst (da_cons (de_op op_Add (de_op op_Add (de_of (pv 12)) (de_of (pv 13))) (de_tup (da_cons (de_ix (de_of (pv 2)) (de_of (pv 6))) da_nil))) (da_cons (de_op op_Add (de_op op_Add (de_of (pv 12)) (de_tup (da_cons (de_lst (da_cons (de_of (pv 7)) (da_cons (de_of (pv 8)) (da_cons (de_of (pv 9)) da_nil)))) da_nil))) (de_of (pv 13))) da_nil)))))))))))))))) ds_nil)
    (ds_one (ds_ret (de_of (pv 5)))))))
theorem body__law_text (B : Blt mg) (F_law_signs : Callee P w K mg base 3 "_law_signs" s__law_signs ps__law_signs sp__law_signs) (F_law_pick : Callee P w K mg base 2 "_law_pick" s__law_pick ps__law_pick sp__law_pick) (F_law_draw : Callee P w K mg base 1 "_law_draw" s__law_draw ps__law_draw sp__law_draw) (f : Addr) (cdv : Value) (A : Around) (outer : List Env) (s : Shared) (H : Hp) (E : XK) (hr : Room 3 (bodyX P w K mg base N__law_text "_law_text" s__law_text f cdv A outer s H E).A) (gd : (bodyX P w K mg base N__law_text "_law_text" s__law_text f cdv A outer s H E).A.guards = some []) : DSs (bodyX P w K mg base N__law_text "_law_text" s__law_text f cdv A outer s H E) (defBody s__law_text) t__law_text :=
  (ds_one (ds_ret (de_cal F_law_signs hr (by decide) gd (by rfl) (da_cons (de_of (pv 0)) (da_cons (de_cal F_law_pick hr (by decide) gd (by rfl) (da_cons (de_of (pv 0)) (da_cons (de_lst (da_cons de_int (da_cons de_int (da_cons de_int (da_cons de_int (da_cons (de_op op_Add de_int (de_cal F_law_draw hr (by decide) gd (by rfl) (da_cons (de_of (pv 0)) (da_cons de_int da_nil)))) (da_cons (de_cal F_law_draw hr (by decide) gd (by rfl) (da_cons (de_of (pv 0)) (da_cons de_int da_nil))) da_nil))))))) da_nil))) da_nil)))))
theorem body__law_put (B : Blt mg) (F_law_draw : Callee P w K mg base 1 "_law_draw" s__law_draw ps__law_draw sp__law_draw) (F_law_pick : Callee P w K mg base 2 "_law_pick" s__law_pick ps__law_pick sp__law_pick) (F_law_signs : Callee P w K mg base 3 "_law_signs" s__law_signs ps__law_signs sp__law_signs) (f : Addr) (cdv : Value) (A : Around) (outer : List Env) (s : Shared) (H : Hp) (E : XK) (hr : Room 3 (bodyX P w K mg base N__law_put "_law_put" s__law_put f cdv A outer s H E).A) (gd : (bodyX P w K mg base N__law_put "_law_put" s__law_put f cdv A outer s H E).A.guards = some []) : DSs (bodyX P w K mg base N__law_put "_law_put" s__law_put f cdv A outer s H E) (defBody s__law_put) t__law_put :=
  (ds_cons (ds_set (i := 2) sc__law_put.nd rfl (by first | exact Or.inl rfl | exact Or.inr rfl) (de_cal F_law_draw hr (by decide) gd (by rfl) (da_cons (de_of (pv 0)) (da_cons (de_op op_Add (de_callB (call_Len) (by rfl) B.b_len (by decide +kernel) (da_cons (de_of (pv 1)) da_nil)) de_int) da_nil))))
    (ds_one (ds_ret (de_cal F_law_pick hr (by decide) gd (by rfl) (da_cons (de_of (pv 0)) (da_cons (de_lst (da_cons de_str (da_cons de_str (da_cons (de_slice (de_of (pv 1)) (do_some (de_of (pv 2))) (do_some (de_op op_Add (de_of (pv 2)) de_int))) (da_cons de_str (da_cons de_str (da_cons de_str (da_cons (de_cal F_law_signs hr (by decide) gd (by rfl) (da_cons (de_of (pv 0)) (da_cons (de_cal F_law_draw hr (by decide) gd (by rfl) (da_cons (de_of (pv 0)) (da_cons de_int da_nil))) da_nil))) da_nil)))))))) da_nil))))))
theorem body__law_is_typed_right (B : Blt mg) (Fedit_between : Callee P w K mg base 1 "edit_between" s_edit_between ps_edit_between sp_edit_between) (Fedit_back : Callee P w K mg base 1 "edit_back" s_edit_back ps_edit_back sp_edit_back) (Fedit_done : Callee P w K mg base 1 "edit_done" s_edit_done ps_edit_done sp_edit_done) (Fedits_done : Callee P w K mg base 2 "edits_done" s_edits_done ps_edits_done sp_edits_done) (Fedits_error : Callee P w K mg base 3 "edits_error" s_edits_error ps_edits_error sp_edits_error) (Fdo_touch : Callee P w K mg base 1 "do_touch" s_do_touch ps_do_touch sp_do_touch) (Fedit_error : Callee P w K mg base 2 "edit_error" s_edit_error ps_edit_error sp_edit_error) (F_law_like : Callee P w K mg base 1 "_law_like" s__law_like ps__law_like sp__law_like) (f : Addr) (cdv : Value) (A : Around) (outer : List Env) (s : Shared) (H : Hp) (E : XK) (hr : Room 3 (bodyX P w K mg base N__law_is_typed_right "_law_is_typed_right" s__law_is_typed_right f cdv A outer s H E).A) (gd : (bodyX P w K mg base N__law_is_typed_right "_law_is_typed_right" s__law_is_typed_right f cdv A outer s H E).A.guards = some []) : DSs (bodyX P w K mg base N__law_is_typed_right "_law_is_typed_right" s__law_is_typed_right f cdv A outer s H E) (defBody s__law_is_typed_right) t__law_is_typed_right :=
  (ds_cons (ds_asg (de_tup (da_cons de_str (da_cons (de_tup (da_cons (de_tup (da_cons de_int (da_cons de_int (da_cons de_str da_nil)))) (da_cons (de_tup (da_cons de_int (da_cons de_int (da_cons de_str da_nil)))) (da_cons (de_tup (da_cons de_int (da_cons de_int (da_cons de_str da_nil)))) da_nil)))) da_nil))) (dg_tup rfl (dgs_cons (dg_name (i := 0) sc__law_is_typed_right.nd rfl (by first | exact Or.inl rfl | exact Or.inr rfl)) (dgs_cons (dg_name (i := 1) sc__law_is_typed_right.nd rfl (by first | exact Or.inl rfl | exact Or.inr rfl)) dgs_nil))))
    (ds_cons (ds_set (i := 2) sc__law_is_typed_right.nd rfl (by first | exact Or.inl rfl | exact Or.inr rfl) (de_lst (da_cons (de_cal Fedit_done hr (by decide) gd (by rfl) (da_cons (de_of (pv 0)) (da_cons (de_tup (da_cons de_int (da_cons de_int (da_cons de_str da_nil)))) da_nil))) (da_cons (de_cal Fedit_back hr (by decide) gd (by rfl) (da_cons (de_of (pv 0)) (da_cons (de_tup (da_cons de_int (da_cons de_int (da_cons de_str da_nil)))) da_nil))) (da_cons (de_cal Fedit_between hr (by decide) gd (by rfl) (da_cons (de_of (pv 0)) (da_cons de_str da_nil))) da_nil)))))
    (ds_cons (ds_set (i := 2) sc__law_is_typed_right.nd rfl (by first | exact Or.inl rfl | exact Or.inr rfl) (de_op op_Add (de_of (pv 2)) (de_lst (da_cons (de_cal Fedit_between hr (by decide) gd (by rfl) (da_cons de_str (da_cons de_str da_nil))) (da_cons (de_cal Fedit_between hr (by decide) gd (by rfl) (da_cons (de_of (pv 0)) (da_cons (de_of (pv 0)) da_nil))) (da_cons (de_cal Fedit_between hr (by decide) gd (by rfl) (da_cons de_str (da_cons de_str da_nil))) da_nil))))))
    (ds_cons (ds_set (i := 2) sc__law_is_typed_right.nd rfl (by first | exact Or.inl rfl | exact Or.inr rfl) (de_op op_Add (de_of (pv 2)) (de_lst (da_cons (de_cal Fedit_between hr (by decide) gd (by rfl) (da_cons de_str (da_cons de_str da_nil))) (da_cons (de_cal Fedit_between hr (by decide) gd (by rfl) (da_cons de_str (da_cons de_str da_nil))) (da_cons (de_cal Fedit_between hr (by decide) gd (by rfl) (da_cons de_str (da_cons de_str da_nil))) da_nil))))))
    (ds_cons (ds_set (i := 2) sc__law_is_typed_right.nd rfl (by first | exact Or.inl rfl | exact Or.inr rfl) (de_op op_Add (de_of (pv 2)) (de_lst (da_cons (de_cal Fedit_between hr (by decide) gd (by rfl) (da_cons de_str (da_cons de_str da_nil))) (da_cons (de_cal Fedits_done hr (by decide) gd (by rfl) (da_cons (de_of (pv 0)) (da_cons (de_of (pv 1)) da_nil))) (da_cons (de_cal Fedits_done hr (by decide) gd (by rfl) (da_cons de_str (da_cons (de_tup da_nil) da_nil))) da_nil))))))
    (ds_cons (ds_set (i := 2) sc__law_is_typed_right.nd rfl (by first | exact Or.inl rfl | exact Or.inr rfl) (de_op op_Add (de_of (pv 2)) (de_lst (da_cons (de_cal Fedits_error hr (by decide) gd (by rfl) (da_cons (de_of (pv 0)) (da_cons (de_back (de_of (pv 1))) da_nil))) da_nil))))
    (ds_cons (ds_set (i := 2) sc__law_is_typed_right.nd rfl (by first | exact Or.inl rfl | exact Or.inr rfl) (de_op op_Add (de_of (pv 2)) (de_lst (da_cons (de_cal Fedits_error hr (by decide) gd (by rfl) (da_cons (de_of (pv 0)) (da_cons (de_tup (da_cons (de_tup (da_cons de_int (da_cons de_int (da_cons de_str da_nil)))) (da_cons (de_tup (da_cons de_int (da_cons de_int (da_cons de_str da_nil)))) da_nil))) da_nil))) (da_cons (de_cal Fedits_error hr (by decide) gd (by rfl) (da_cons (de_of (pv 0)) (da_cons (de_tup (da_cons (de_tup (da_cons de_int (da_cons de_int (da_cons de_str da_nil)))) (da_cons (de_tup (da_cons de_int (da_cons de_int (da_cons de_str da_nil)))) da_nil))) da_nil))) da_nil)))))
    (ds_cons (ds_set (i := 2) sc__law_is_typed_right.nd rfl (by first | exact Or.inl rfl | exact Or.inr rfl) (de_op op_Add (de_of (pv 2)) (de_lst (da_cons (de_cal Fedits_error hr (by decide) gd (by rfl) (da_cons (de_of (pv 0)) (da_cons (de_tup (da_cons (de_tup (da_cons de_int (da_cons de_int (da_cons de_str da_nil)))) (da_cons (de_tup (da_cons de_int (da_cons de_int (da_cons de_str da_nil)))) da_nil))) da_nil))) (da_cons (de_cal Fdo_touch hr (by decide) gd (by rfl) (da_cons (de_tup (da_cons de_int (da_cons de_int (da_cons de_str da_nil)))) (da_cons (de_tup (da_cons de_int (da_cons de_int (da_cons de_str da_nil)))) da_nil))) da_nil)))))
    (ds_cons (ds_set (i := 2) sc__law_is_typed_right.nd rfl (by first | exact Or.inl rfl | exact Or.inr rfl) (de_op op_Add (de_of (pv 2)) (de_lst (da_cons (de_cal Fedits_error hr (by decide) gd (by rfl) (da_cons de_str (da_cons de_non da_nil))) (da_cons (de_cal Fdo_touch hr (by decide) gd (by rfl) (da_cons (de_tup (da_cons de_int (da_cons de_int (da_cons de_str da_nil)))) (da_cons (de_tup (da_cons de_int (da_cons de_int (da_cons de_str da_nil)))) da_nil))) da_nil)))))
    (ds_cons (ds_set (i := 2) sc__law_is_typed_right.nd rfl (by first | exact Or.inl rfl | exact Or.inr rfl) (de_op op_Add (de_of (pv 2)) (de_lst (da_cons (de_cal Fedit_error hr (by decide) gd (by rfl) (da_cons de_str (da_cons (de_tup (da_cons de_int (da_cons de_int (da_cons de_str da_nil)))) da_nil))) (da_cons (de_cal Fedit_error hr (by decide) gd (by rfl) (da_cons de_str (da_cons (de_tup (da_cons de_int (da_cons de_int (da_cons de_str da_nil)))) da_nil))) da_nil)))))
    (ds_cons (ds_set (i := 3) sc__law_is_typed_right.nd rfl (by first | exact Or.inl rfl | exact Or.inr rfl) (de_lst (da_cons de_str (da_cons (de_tup (da_cons de_int (da_cons de_int (da_cons de_str da_nil)))) (da_cons (de_tup (da_cons de_int (da_cons de_int (da_cons de_str da_nil)))) (da_cons (de_tup (da_cons de_int (da_cons de_int (da_cons de_str da_nil)))) (da_cons (de_tup (da_cons de_int (da_cons de_int (da_cons de_str da_nil)))) (da_cons (de_tup (da_cons de_int (da_cons de_int (da_cons de_str da_nil)))) (da_cons (de_tup (da_cons de_int (da_cons de_int (da_cons de_str da_nil)))) (da_cons (de_tup (da_cons de_int (da_cons de_int (da_cons de_str da_nil)))) (da_cons (de_tup (da_cons de_int (da_cons de_int (da_cons de_str da_nil)))) (da_cons (de_tup (da_cons de_int (da_cons de_int (da_cons de_str da_nil)))) (da_cons de_str (da_cons de_str (da_cons (de_tup (da_cons de_str (da_cons de_int da_nil))) (da_cons (de_tup (da_cons de_str (da_cons de_int da_nil))) (da_cons de_non (da_cons (de_tup (da_cons de_str (da_cons de_int (da_cons de_str da_nil)))) (da_cons de_bl (da_cons de_str (da_cons de_bl (da_cons de_non (da_cons de_str da_nil)))))))))))))))))))))))
    (ds_one (ds_ret (de_cal F_law_like hr (by decide) gd (by rfl) (da_cons (de_of (pv 2)) (da_cons (de_of (pv 3)) da_nil))))))))))))))))
theorem body__law_is_long_right (B : Blt mg) (F_law_signs : Callee P w K mg base 3 "_law_signs" s__law_signs ps__law_signs sp__law_signs) (F_law_draw : Callee P w K mg base 1 "_law_draw" s__law_draw ps__law_draw sp__law_draw) (F_law_pick : Callee P w K mg base 2 "_law_pick" s__law_pick ps__law_pick sp__law_pick) (F_law_is_edit_right : Callee P w K mg base 3 "_law_is_edit_right" s__law_is_edit_right ps__law_is_edit_right sp__law_is_edit_right) (F_law_like : Callee P w K mg base 1 "_law_like" s__law_like ps__law_like sp__law_like) (F_law_done : Callee P w K mg base 1 "_law_done" s__law_done ps__law_done sp__law_done) (Fedits_done : Callee P w K mg base 2 "edits_done" s_edits_done ps_edits_done sp_edits_done) (Fedits_error : Callee P w K mg base 3 "edits_error" s_edits_error ps_edits_error sp_edits_error) (Fedit_error : Callee P w K mg base 2 "edit_error" s_edit_error ps_edit_error sp_edit_error) (F_law_between : Callee P w K mg base 2 "_law_between" s__law_between ps__law_between sp__law_between) (Fedit_between : Callee P w K mg base 1 "edit_between" s_edit_between ps_edit_between sp_edit_between) (f : Addr) (cdv : Value) (A : Around) (outer : List Env) (s : Shared) (H : Hp) (E : XK) (hr : Room 3 (bodyX P w K mg base N__law_is_long_right "_law_is_long_right" s__law_is_long_right f cdv A outer s H E).A) (gd : (bodyX P w K mg base N__law_is_long_right "_law_is_long_right" s__law_is_long_right f cdv A outer s H E).A.guards = some []) : DSs (bodyX P w K mg base N__law_is_long_right "_law_is_long_right" s__law_is_long_right f cdv A outer s H E) (defBody s__law_is_long_right) t__law_is_long_right :=
  (ds_cons (ds_set (i := 1) sc__law_is_long_right.nd rfl (by first | exact Or.inl rfl | exact Or.inr rfl) (de_cal F_law_signs hr (by decide) gd (by rfl) (da_cons (de_of (pv 0)) (da_cons (de_op op_Add de_int (de_cal F_law_draw hr (by decide) gd (by rfl) (da_cons (de_of (pv 0)) (da_cons de_int da_nil)))) da_nil))))
    (ds_cons (ds_set (i := 2) sc__law_is_long_right.nd rfl (by first | exact Or.inl rfl | exact Or.inr rfl) (de_slice (de_op op_Mul (de_of (pv 1)) de_int) do_none (do_some de_int)))
    (ds_cons (ds_set (i := 3) sc__law_is_long_right.nd rfl (by first | exact Or.inl rfl | exact Or.inr rfl) (de_cal F_law_pick hr (by decide) gd (by rfl) (da_cons (de_of (pv 0)) (da_cons (de_lst (da_cons de_int (da_cons de_int (da_cons (de_cal F_law_draw hr (by decide) gd (by rfl) (da_cons (de_of (pv 0)) (da_cons de_int da_nil))) da_nil)))) da_nil))))
    (ds_cons (ds_set (i := 4) sc__law_is_long_right.nd rfl (by first | exact Or.inl rfl | exact Or.inr rfl) (de_tup (da_cons (de_of (pv 3)) (da_cons (de_op op_Add (de_op op_Add (de_of (pv 3)) de_int) (de_cal F_law_draw hr (by decide) gd (by rfl) (da_cons (de_of (pv 0)) (da_cons de_int da_nil)))) (da_cons (de_cal F_law_pick hr (by decide) gd (by rfl) (da_cons (de_of (pv 0)) (da_cons (de_lst (da_cons de_str (da_cons de_str (da_cons de_str (da_cons (de_slice (de_of (pv 1)) do_none (do_some de_int)) da_nil))))) da_nil))) da_nil)))))
    (ds_cons (ds_set (i := 5) sc__law_is_long_right.nd rfl (by first | exact Or.inl rfl | exact Or.inr rfl) (de_if (dt_cmp op_Lt (de_of (pv 3)) de_int) (de_tup (da_cons (de_of (pv 4)) da_nil)) (de_tup (da_cons (de_tup (da_cons de_int (da_cons de_int (da_cons de_str da_nil)))) (da_cons (de_of (pv 4)) da_nil)))))
    (ds_cons (ds_if (dt_w (dw_or (dt_not (dt_truth (de_cal F_law_is_edit_right hr (by decide) gd (by rfl) (da_cons (de_of (pv 2)) (da_cons (de_of (pv 4)) da_nil))))) (dw_or1 (dt_not (dt_truth (de_cal F_law_like hr (by decide) gd (by rfl) (da_cons (de_cal Fedits_done hr (by decide) gd (by rfl) (da_cons (de_of (pv 2)) (da_cons (de_of (pv 5)) da_nil))) (da_cons (de_cal F_law_done hr (by decide) gd (by rfl) (da_cons (de_of (pv 2)) (da_cons (de_of (pv 5)) da_nil))) da_nil)))))))) (ds_one (ds_ret de_bl)) ds_nil)
    (ds_cons (ds_set (i := 6) sc__law_is_long_right.nd rfl (by first | exact Or.inl rfl | exact Or.inr rfl) (de_tup (da_cons de_int (da_cons de_int (da_cons de_str da_nil)))))
    (ds_cons (ds_set (i := 7) sc__law_is_long_right.nd rfl (by first | exact Or.inl rfl | exact Or.inr rfl) (de_lst (da_cons (de_cal Fedit_error hr (by decide) gd (by rfl) (da_cons (de_of (pv 2)) (da_cons (de_of (pv 6)) da_nil))) (da_cons (de_cal Fedit_error hr (by decide) gd (by rfl) (da_cons (de_of (pv 2)) (da_cons (de_tup (da_cons de_int (da_cons de_int (da_cons de_str da_nil)))) da_nil))) (da_cons (de_cal Fedits_error hr (by decide) gd (by rfl) (da_cons (de_of (pv 2)) (da_cons (de_op op_Add (de_of (pv 5)) (de_tup (da_cons (de_of (pv 6)) da_nil))) da_nil))) da_nil)))))
    (ds_cons (ds_if (dt_not (dt_truth (de_cal F_law_like hr (by decide) gd (by rfl) (da_cons (de_of (pv 7)) (da_cons (de_lst (da_cons de_str (da_cons de_non (da_cons (de_tup (da_cons de_str (da_cons (de_callB (call_Len) (by rfl) B.b_len (by decide +kernel) (da_cons (de_of (pv 5)) da_nil)) (da_cons de_str da_nil)))) da_nil)))) da_nil))))) (ds_one (ds_ret de_bl)) ds_nil)
    (ds_cons (ds_set (i := 8) sc__law_is_long_right.nd rfl (by first | exact Or.inl rfl | exact Or.inr rfl) (de_cal F_law_done hr (by decide) gd (by rfl) (da_cons (de_of (pv 2)) (da_cons (de_lst (da_cons (de_of (pv 4)) da_nil)) da_nil))))
    (ds_one (ds_ret (de_cal F_law_like hr (by decide) gd (by rfl) (da_cons (de_cal Fedit_between hr (by decide) gd (by rfl) (da_cons (de_of (pv 2)) (da_cons (de_of (pv 8)) da_nil))) (da_cons (de_cal F_law_between hr (by decide) gd (by rfl) (da_cons (de_of (pv 2)) (da_cons (de_of (pv 8)) da_nil))) da_nil)))))))))))))))
theorem body__law_edit (B : Blt mg) (F_law_put : Callee P w K mg base 4 "_law_put" s__law_put ps__law_put sp__law_put) (F_law_draw : Callee P w K mg base 1 "_law_draw" s__law_draw ps__law_draw sp__law_draw) (F_law_pick : Callee P w K mg base 2 "_law_pick" s__law_pick ps__law_pick sp__law_pick) (f : Addr) (cdv : Value) (A : Around) (outer : List Env) (s : Shared) (H : Hp) (E : XK) (hr : Room 4 (bodyX P w K mg base N__law_edit "_law_edit" s__law_edit f cdv A outer s H E).A) (gd : (bodyX P w K mg base N__law_edit "_law_edit" s__law_edit f cdv A outer s H E).A.guards = some []) : DSs (bodyX P w K mg base N__law_edit "_law_edit" s__law_edit f cdv A outer s H E) (defBody s__law_edit) t__law_edit :=
  (ds_cons (ds_par (i := 2) (j := 3) rfl sc__law_edit.nd rfl rfl (by decide) rfl rfl (da_cons (de_callB (call_Len) (by rfl) B.b_len (by decide +kernel) (da_cons (de_of (pv 1)) da_nil)) (da_cons (de_cal F_law_put hr (by decide) gd (by rfl) (da_cons (de_of (pv 0)) (da_cons (de_of (pv 1)) da_nil))) da_nil)) (by rfl))
    (ds_cons (ds_set (i := 4) sc__law_edit.nd rfl (by first | exact Or.inl rfl | exact Or.inr rfl) (de_cal F_law_draw hr (by decide) gd (by rfl) (da_cons (de_of (pv 0)) (da_cons (de_op op_Add (de_of (pv 2)) de_int) da_nil))))
    (ds_cons (ds_set (i := 5) sc__law_edit.nd rfl (by first | exact Or.inl rfl | exact Or.inr rfl) (de_op op_Add (de_of (pv 4)) (de_cal F_law_draw hr (by decide) gd (by rfl) (da_cons (de_of (pv 0)) (da_cons (de_op op_Add (de_op op_Sub (de_of (pv 2)) (de_of (pv 4))) de_int) da_nil)))))
    (ds_cons (ds_set (i := 6) sc__law_edit.nd rfl (by first | exact Or.inl rfl | exact Or.inr rfl) (de_op op_Add (de_of (pv 4)) (de_cal F_law_draw hr (by decide) gd (by rfl) (da_cons (de_of (pv 0)) (da_cons (de_op op_Add (de_callB (call_Min rfl) (by rfl) B.b_min (by decide +kernel) (da_cons (de_op op_Sub (de_of (pv 2)) (de_of (pv 4))) (da_cons de_int da_nil))) de_int) da_nil)))))
    (ds_cons (ds_set (i := 7) sc__law_edit.nd rfl (by first | exact Or.inl rfl | exact Or.inr rfl) (de_lst (da_cons (de_tup (da_cons de_int (da_cons de_int (da_cons (de_of (pv 3)) da_nil)))) (da_cons (de_tup (da_cons (de_of (pv 2)) (da_cons (de_of (pv 2)) (da_cons de_str da_nil)))) (da_cons (de_tup (da_cons (de_of (pv 2)) (da_cons (de_of (pv 2)) (da_cons (de_of (pv 3)) da_nil)))) (da_cons (de_tup (da_cons de_int (da_cons (de_of (pv 2)) (da_cons de_str da_nil)))) (da_cons (de_tup (da_cons de_int (da_cons (de_of (pv 2)) (da_cons (de_of (pv 3)) da_nil)))) (da_cons (de_tup (da_cons (de_of (pv 4)) (da_cons (de_of (pv 5)) (da_cons de_str da_nil)))) (da_cons (de_tup (da_cons (de_of (pv 4)) (da_cons (de_of (pv 4)) (da_cons (de_of (pv 3)) da_nil)))) (da_cons (de_tup (da_cons (de_of (pv 4)) (da_cons (de_of (pv 5)) (da_cons (de_of (pv 3)) da_nil)))) (da_cons (de_tup (da_cons (de_of (pv 4)) (da_cons (de_of (pv 6)) (da_cons (de_of (pv 3)) da_nil)))) (da_cons (de_tup (da_cons de_int (da_cons (de_of (pv 5)) (da_cons (de_of (pv 3)) da_nil)))) (da_cons (de_tup (da_cons (de_of (pv 4)) (da_cons (de_of (pv 2)) (da_cons (de_of (pv 3)) da_nil)))) da_nil)))))))))))))
    (ds_one (ds_ret (de_cal F_law_pick hr (by decide) gd (by rfl) (da_cons (de_of (pv 0)) (da_cons (de_of (pv 7)) da_nil))))))))))
theorem body__law_edits (B : Blt mg) (F_law_pick : Callee P w K mg base 2 "_law_pick" s__law_pick ps__law_pick sp__law_pick) (F_law_draw : Callee P w K mg base 1 "_law_draw" s__law_draw ps__law_draw sp__law_draw) (F_law_put : Callee P w K mg base 4 "_law_put" s__law_put ps__law_put sp__law_put) (f : Addr) (cdv : Value) (A : Around) (outer : List Env) (s : Shared) (H : Hp) (E : XK) (hr : Room 4 (bodyX P w K mg base N__law_edits "_law_edits" s__law_edits f cdv A outer s H E).A) (gd : (bodyX P w K mg base N__law_edits "_law_edits" s__law_edits f cdv A outer s H E).A.guards = some []) : DSs (bodyX P w K mg base N__law_edits "_law_edits" s__law_edits f cdv A outer s H E) (defBody s__law_edits) t__law_edits :=
  (ds_cons (ds_par3 (i := 2) (j := 3) (l := 4) rfl sc__law_edits.nd rfl rfl rfl (by decide) (by decide) (by decide) rfl rfl rfl (da_cons (de_lst da_nil) (da_cons (de_cal F_law_draw hr (by decide) gd (by rfl) (da_cons (de_of (pv 0)) (da_cons (de_op op_Add (de_callB (call_Min rfl) (by rfl) B.b_min (by decide +kernel) (da_cons (de_callB (call_Len) (by rfl) B.b_len (by decide +kernel) (da_cons (de_of (pv 1)) da_nil)) (da_cons de_int da_nil))) de_int) da_nil))) (da_cons (de_cal F_law_pick hr (by decide) gd (by rfl) (da_cons (de_of (pv 0)) (da_cons (de_lst (da_cons de_int (da_cons de_int (da_cons de_int da_nil)))) da_nil))) da_nil))) (by rfl))
    (ds_cons (ds_for PassesOwn.never rfl (di_range1 (by rfl) B.b_range (da_cons (de_cal F_law_draw hr (by decide) gd (by rfl) (da_cons (de_of (pv 0)) (da_cons de_int da_nil))) da_nil)) (dg_name (i := 5) sc__law_edits.nd rfl (by first | exact Or.inl rfl | exact Or.inr rfl)) (ds_cons (ds_if (dt_cmp op_Gt (de_of (pv 3)) (de_callB (call_Len) (by rfl) B.b_len (by decide +kernel) (da_cons (de_of (pv 1)) da_nil))) (ds_one ds_break) ds_nil)
    (ds_cons (ds_set (i := 6) sc__law_edits.nd rfl (by first | exact Or.inl rfl | exact Or.inr rfl) (de_op op_Add (de_of (pv 3)) (de_cal F_law_draw hr (by decide) gd (by rfl) (da_cons (de_of (pv 0)) (da_cons (de_op op_Add (de_callB (call_Min rfl) (by rfl) B.b_min (by decide +kernel) (da_cons (de_op op_Sub (de_callB (call_Len) (by rfl) B.b_len (by decide +kernel) (da_cons (de_of (pv 1)) da_nil)) (de_of (pv 3))) (da_cons (de_of (pv 4)) da_nil))) de_int) da_nil)))))
    (ds_cons (ds_set (i := 7) sc__law_edits.nd rfl (by first | exact Or.inl rfl | exact Or.inr rfl) (de_op op_Add (de_of (pv 6)) (de_cal F_law_draw hr (by decide) gd (by rfl) (da_cons (de_of (pv 0)) (da_cons (de_op op_Add (de_callB (call_Min rfl) (by rfl) B.b_min (by decide +kernel) (da_cons (de_op op_Sub (de_callB (call_Len) (by rfl) B.b_len (by decide +kernel) (da_cons (de_of (pv 1)) da_nil)) (de_of (pv 6))) (da_cons (de_of (pv 4)) da_nil))) de_int) da_nil)))))
    (ds_cons (ds_expr (de_bm PySem.F.plainAttrs_list PySem.F.slot_list_append PySem.F.type_list_append mt_Append (de_of (pv 2)) (da_cons (de_tup (da_cons (de_of (pv 6)) (da_cons (de_of (pv 7)) (da_cons (de_cal F_law_put hr (by decide) gd (by rfl) (da_cons (de_of (pv 0)) (da_cons (de_of (pv 1)) da_nil))) da_nil)))) da_nil)))
    (ds_one (ds_set (i := 3) sc__law_edits.nd rfl (by first | exact Or.inl rfl | exact Or.inr rfl) (de_op op_Add (de_of (pv 7)) de_int))))))))
    (ds_one (ds_ret (de_callTy call_Tuple (by rfl) B.b_tuple (by decide +kernel) (da_cons (de_of (pv 2)) da_nil))))))
theorem body__law_others (B : Blt mg) (F_law_draw : Callee P w K mg base 1 "_law_draw" s__law_draw ps__law_draw sp__law_draw) (F_law_text : Callee P w K mg base 4 "_law_text" s__law_text ps__law_text sp__law_text) (F_law_done : Callee P w K mg base 1 "_law_done" s__law_done ps__law_done sp__law_done) (F_law_edits : Callee P w K mg base 5 "_law_edits" s__law_edits ps__law_edits sp__law_edits) (F_law_edit : Callee P w K mg base 5 "_law_edit" s__law_edit ps__law_edit sp__law_edit) (F_law_pick : Callee P w K mg base 2 "_law_pick" s__law_pick ps__law_pick sp__law_pick) (f : Addr) (cdv : Value) (A : Around) (outer : List Env) (s : Shared) (H : Hp) (E : XK) (hr : Room 5 (bodyX P w K mg base N__law_others "_law_others" s__law_others f cdv A outer s H E).A) (gd : (bodyX P w K mg base N__law_others "_law_others" s__law_others f cdv A outer s H E).A.guards = some []) : DSs (bodyX P w K mg base N__law_others "_law_others" s__law_others f cdv A outer s H E) (defBody s__law_others) t__law_others :=
  (ds_cons (ds_set (i := 2) sc__law_others.nd rfl (by first | exact Or.inl rfl | exact Or.inr rfl) (de_callB (call_Len) (by rfl) B.b_len (by decide +kernel) (da_cons (de_of (pv 1)) da_nil)))
    (ds_cons (ds_set (i := 3) sc__law_others.nd rfl (by first | exact Or.inl rfl | exact Or.inr rfl) (de_cal F_law_draw hr (by decide) gd (by rfl) (da_cons (de_of (pv 0)) (da_cons (de_op op_Add (de_of (pv 2)) de_int) da_nil))))
    (ds_cons (ds_set (i := 4) sc__law_others.nd rfl (by first | exact Or.inl rfl | exact Or.inr rfl) (de_lst (da_cons (de_of (pv 1)) (da_cons (de_slice (de_of (pv 1)) do_none (do_some (de_of (pv 3)))) (da_cons (de_slice (de_of (pv 1)) (do_some (de_of (pv 3))) do_none) (da_cons (de_op op_Add (de_of (pv 1)) (de_slice (de_of (pv 1)) do_none (do_some (de_of (pv 3))))) (da_cons (de_op op_Add (de_slice (de_of (pv 1)) do_none (do_some (de_of (pv 3)))) (de_of (pv 1))) (da_cons (de_back (de_of (pv 1))) (da_cons (de_cal F_law_text hr (by decide) gd (by rfl) (da_cons (de_of (pv 0)) da_nil)) (da_cons de_str da_nil))))))))))
    (ds_one (ds_ret (de_lst (da_cons (de_cal F_law_pick hr (by decide) gd (by rfl) (da_cons (de_of (pv 0)) (da_cons (de_of (pv 4)) da_nil))) (da_cons (de_cal F_law_done hr (by decide) gd (by rfl) (da_cons (de_of (pv 1)) (da_cons (de_lst (da_cons (de_cal F_law_edit hr (by decide) gd (by rfl) (da_cons (de_of (pv 0)) (da_cons (de_of (pv 1)) da_nil))) da_nil)) da_nil))) (da_cons (de_cal F_law_done hr (by decide) gd (by rfl) (da_cons (de_of (pv 1)) (da_cons (de_cal F_law_edits hr (by decide) gd (by rfl) (da_cons (de_of (pv 0)) (da_cons (de_of (pv 1)) da_nil))) da_nil))) da_nil)))))))))
theorem body__law_are_edits_right (B : Blt mg) (F_law_edits : Callee P w K mg base 5 "_law_edits" s__law_edits ps__law_edits sp__law_edits) (F_law_done : Callee P w K mg base 1 "_law_done" s__law_done ps__law_done sp__law_done) (Fedits_error : Callee P w K mg base 3 "edits_error" s_edits_error ps_edits_error sp_edits_error) (Fedits_done : Callee P w K mg base 2 "edits_done" s_edits_done ps_edits_done sp_edits_done) (F_law_like : Callee P w K mg base 1 "_law_like" s__law_like ps__law_like sp__law_like) (F_law_pick : Callee P w K mg base 2 "_law_pick" s__law_pick ps__law_pick sp__law_pick) (F_law_some_edits : Callee P w K mg base 3 "_law_some_edits" s__law_some_edits ps__law_some_edits sp__law_some_edits) (F_law_edits_due : Callee P w K mg base 2 "_law_edits_due" s__law_edits_due ps__law_edits_due sp__law_edits_due) (f : Addr) (cdv : Value) (A : Around) (outer : List Env) (s : Shared) (H : Hp) (E : XK) (hr : Room 5 (bodyX P w K mg base N__law_are_edits_right "_law_are_edits_right" s__law_are_edits_right f cdv A outer s H E).A) (gd : (bodyX P w K mg base N__law_are_edits_right "_law_are_edits_right" s__law_are_edits_right f cdv A outer s H E).A.guards = some []) : DSs (bodyX P w K mg base N__law_are_edits_right "_law_are_edits_right" s__law_are_edits_right f cdv A outer s H E) (defBody s__law_are_edits_right) t__law_are_edits_right :=
  (ds_cons (ds_set (i := 2) sc__law_are_edits_right.nd rfl (by first | exact Or.inl rfl | exact Or.inr rfl) (de_cal F_law_edits hr (by decide) gd (by rfl) (da_cons (de_of (pv 0)) (da_cons (de_of (pv 1)) da_nil))))
    (ds_cons (ds_par (i := 3) (j := 4) rfl sc__law_are_edits_right.nd rfl rfl (by decide) rfl rfl (da_cons (de_cal F_law_done hr (by decide) gd (by rfl) (da_cons (de_of (pv 1)) (da_cons (de_of (pv 2)) da_nil))) (da_cons (de_callB (call_Repr gd (huR hr)) (by rfl) B.b_repr (by decide +kernel) (da_cons (de_of (pv 2)) da_nil)) da_nil)) (by rfl))
    (ds_cons (ds_set (i := 5) sc__law_are_edits_right.nd rfl (by first | exact Or.inl rfl | exact Or.inr rfl) (de_lst (da_cons (de_cal Fedits_done hr (by decide) gd (by rfl) (da_cons (de_of (pv 1)) (da_cons (de_of (pv 2)) da_nil))) (da_cons (de_calK (ks := ["text", "edits"]) (π := [0, 1]) Fedits_done hr (by decide) gd (by rfl) (fun _ _ _ _ _ _ ws hl => match ws, hl with | [_, _], _ => rfl) (by decide) (dk_cons (de_of (pv 1)) (dk_cons (de_of (pv 2)) dk_nil))) (da_cons (de_cal Fedits_error hr (by decide) gd (by rfl) (da_cons (de_of (pv 1)) (da_cons (de_of (pv 2)) da_nil))) da_nil)))))
    (ds_cons (ds_if (dt_w (dw_or (dt_not (dt_truth (de_cal F_law_like hr (by decide) gd (by rfl) (da_cons (de_of (pv 5)) (da_cons (de_lst (da_cons (de_of (pv 3)) (da_cons (de_of (pv 3)) (da_cons de_non da_nil)))) da_nil))))) (dw_or1 (dt_cmp (op_Ne (huR hr)) (de_callB (call_Repr gd (huR hr)) (by rfl) B.b_repr (by decide +kernel) (da_cons (de_of (pv 2)) da_nil)) (de_of (pv 4)))))) (ds_one (ds_ret de_bl)) ds_nil)
    (ds_cons (ds_for PassesOwn.never rfl (di_range1 (by rfl) B.b_range (da_cons de_int da_nil)) (dg_name (i := 6) sc__law_are_edits_right.nd rfl (by first | exact Or.inl rfl | exact Or.inr rfl)) (ds_cons (ds_set (i := 7) sc__law_are_edits_right.nd rfl (by first | exact Or.inl rfl | exact Or.inr rfl) (de_cal F_law_pick hr (by decide) gd (by rfl) (da_cons (de_of (pv 0)) (da_cons (de_cal F_law_some_edits hr (by decide) gd (by rfl) (da_cons (de_of (pv 0)) (da_cons (de_of (pv 1)) (da_cons (de_of (pv 2)) da_nil)))) da_nil))))
    (ds_cons (ds_par (i := 4) (j := 8) rfl sc__law_are_edits_right.nd rfl rfl (by decide) rfl rfl (da_cons (de_callB (call_Repr gd (huR hr)) (by rfl) B.b_repr (by decide +kernel) (da_cons (de_of (pv 7)) da_nil)) (da_cons (de_cal F_law_edits_due hr (by decide) gd (by rfl) (da_cons (de_of (pv 1)) (da_cons (de_of (pv 7)) da_nil))) da_nil)) (by rfl))
    (ds_cons (ds_set (i := 5) sc__law_are_edits_right.nd rfl (by first | exact Or.inl rfl | exact Or.inr rfl) (de_lst (da_cons (de_cal Fedits_error hr (by decide) gd (by rfl) (da_cons (de_of (pv 1)) (da_cons (de_of (pv 7)) da_nil))) (da_cons (de_calK (ks := ["text", "value"]) (π := [0, 1]) Fedits_error hr (by decide) gd (by rfl) (fun _ _ _ _ _ _ ws hl => match ws, hl with | [_, _], _ => rfl) (by decide) (dk_cons (de_of (pv 1)) (dk_cons (de_of (pv 7)) dk_nil))) da_nil))))
    (ds_cons (ds_if (dt_w (dw_or (dt_not (dt_truth (de_cal F_law_like hr (by decide) gd (by rfl) (da_cons (de_of (pv 5)) (da_cons (de_lst (da_cons (de_of (pv 8)) (da_cons (de_of (pv 8)) da_nil))) da_nil))))) (dw_or1 (dt_cmp (op_Ne (huR hr)) (de_callB (call_Repr gd (huR hr)) (by rfl) B.b_repr (by decide +kernel) (da_cons (de_of (pv 7)) da_nil)) (de_of (pv 4)))))) (ds_one (ds_ret de_bl)) ds_nil)
    (ds_one (ds_if (dt_w (dw_and (dt_cmp op_IsN (de_of (pv 8)) de_non) (dw_and1 (dt_not (dt_truth (de_cal F_law_like hr (by decide) gd (by rfl) (da_cons (de_cal Fedits_done hr (by decide) gd (by rfl) (da_cons (de_of (pv 1)) (da_cons (de_of (pv 7)) da_nil))) (da_cons (de_cal F_law_done hr (by decide) gd (by rfl) (da_cons (de_of (pv 1)) (da_cons (de_of (pv 7)) da_nil))) da_nil)))))))) (ds_one (ds_ret de_bl)) ds_nil)))))))
    (ds_one (ds_ret de_bl)))))))
theorem body__law_are_touches_right (B : Blt mg) (F_law_edit : Callee P w K mg base 5 "_law_edit" s__law_edit ps__law_edit sp__law_edit) (F_law_pick : Callee P w K mg base 2 "_law_pick" s__law_pick ps__law_pick sp__law_pick) (F_law_do_touch : Callee P w K mg base 1 "_law_do_touch" s__law_do_touch ps__law_do_touch sp__law_do_touch) (Fdo_touch : Callee P w K mg base 1 "do_touch" s_do_touch ps_do_touch sp_do_touch) (F_law_like : Callee P w K mg base 1 "_law_like" s__law_like ps__law_like sp__law_like) (f : Addr) (cdv : Value) (A : Around) (outer : List Env) (s : Shared) (H : Hp) (E : XK) (hr : Room 5 (bodyX P w K mg base N__law_are_touches_right "_law_are_touches_right" s__law_are_touches_right f cdv A outer s H E).A) (gd : (bodyX P w K mg base N__law_are_touches_right "_law_are_touches_right" s__law_are_touches_right f cdv A outer s H E).A.guards = some []) : DSs (bodyX P w K mg base N__law_are_touches_right "_law_are_touches_right" s__law_are_touches_right f cdv A outer s H E) (defBody s__law_are_touches_right) t__law_are_touches_right :=
  (ds_cons (ds_set (i := 2) sc__law_are_touches_right.nd rfl (by first | exact Or.inl rfl | exact Or.inr rfl) (de_callB (call_Len) (by rfl) B.b_len (by decide +kernel) (da_cons (de_of (pv 1)) da_nil)))
    (ds_cons (ds_for PassesOwn.never rfl (di_range1 (by rfl) B.b_range (da_cons de_int da_nil)) (dg_name (i := 3) sc__law_are_touches_right.nd rfl (by first | exact Or.inl rfl | exact Or.inr rfl)) (ds_cons (ds_set (i := 4) sc__law_are_touches_right.nd rfl (by first | exact Or.inl rfl | exact Or.inr rfl) (de_cal F_law_edit hr (by decide) gd (by rfl) (da_cons (de_of (pv 0)) (da_cons (de_of (pv 1)) da_nil))))
    (ds_cons (ds_par (i := 5) (j := 6) rfl sc__law_are_touches_right.nd rfl rfl (by decide) rfl rfl (da_cons (de_ix (de_of (pv 4)) de_int) (da_cons (de_ix (de_of (pv 4)) de_int) da_nil)) (by rfl))
    (ds_cons (ds_set (i := 7) sc__law_are_touches_right.nd rfl (by first | exact Or.inl rfl | exact Or.inr rfl) (de_lst (da_cons (de_cal F_law_edit hr (by decide) gd (by rfl) (da_cons (de_of (pv 0)) (da_cons (de_of (pv 1)) da_nil))) (da_cons (de_of (pv 4)) (da_cons (de_tup (da_cons (de_of (pv 5)) (da_cons (de_of (pv 5)) (da_cons de_str da_nil)))) (da_cons (de_tup (da_cons (de_of (pv 6)) (da_cons (de_of (pv 6)) (da_cons de_str da_nil)))) (da_cons (de_tup (da_cons (de_of (pv 6)) (da_cons (de_of (pv 2)) (da_cons de_str da_nil)))) (da_cons (de_tup (da_cons de_int (da_cons (de_of (pv 5)) (da_cons de_str da_nil)))) da_nil))))))))
    (ds_cons (ds_if (dt_cmp op_Lt (de_of (pv 6)) (de_of (pv 2))) (ds_one (ds_set (i := 7) sc__law_are_touches_right.nd rfl (by first | exact Or.inl rfl | exact Or.inr rfl) (de_op op_Add (de_of (pv 7)) (de_op op_Mul (de_lst (da_cons (de_tup (da_cons (de_op op_Add (de_of (pv 6)) de_int) (da_cons (de_op op_Add (de_of (pv 6)) de_int) (da_cons de_str da_nil)))) (da_cons (de_tup (da_cons (de_op op_Add (de_of (pv 6)) de_int) (da_cons (de_of (pv 2)) (da_cons de_str da_nil)))) (da_cons (de_tup (da_cons (de_of (pv 5)) (da_cons (de_op op_Add (de_of (pv 6)) de_int) (da_cons de_str da_nil)))) da_nil)))) de_int)))) ds_nil)
    (ds_cons (ds_if (dt_cmp op_Gt (de_of (pv 5)) de_int) (ds_one (ds_set (i := 7) sc__law_are_touches_right.nd rfl (by first | exact Or.inl rfl | exact Or.inr rfl) (de_op op_Add (de_of (pv 7)) (de_op op_Mul (de_lst (da_cons (de_tup (da_cons (de_op op_Sub (de_of (pv 5)) de_int) (da_cons (de_op op_Sub (de_of (pv 5)) de_int) (da_cons de_str da_nil)))) (da_cons (de_tup (da_cons de_int (da_cons (de_op op_Sub (de_of (pv 5)) de_int) (da_cons de_str da_nil)))) (da_cons (de_tup (da_cons (de_op op_Sub (de_of (pv 5)) de_int) (da_cons (de_of (pv 6)) (da_cons de_str da_nil)))) da_nil)))) de_int)))) ds_nil)
    (ds_cons (ds_set (i := 8) sc__law_are_touches_right.nd rfl (by first | exact Or.inl rfl | exact Or.inr rfl) (de_cal F_law_pick hr (by decide) gd (by rfl) (da_cons (de_of (pv 0)) (da_cons (de_of (pv 7)) da_nil))))
    (ds_cons (ds_set (i := 9) sc__law_are_touches_right.nd rfl (by first | exact Or.inl rfl | exact Or.inr rfl) (de_cal F_law_do_touch hr (by decide) gd (by rfl) (da_cons (de_of (pv 4)) (da_cons (de_of (pv 8)) da_nil))))
    (ds_cons (ds_set (i := 10) sc__law_are_touches_right.nd rfl (by first | exact Or.inl rfl | exact Or.inr rfl) (de_lst (da_cons (de_cal Fdo_touch hr (by decide) gd (by rfl) (da_cons (de_of (pv 4)) (da_cons (de_of (pv 8)) da_nil))) (da_cons (de_cal Fdo_touch hr (by decide) gd (by rfl) (da_cons (de_of (pv 8)) (da_cons (de_of (pv 4)) da_nil))) (da_cons (de_calK (ks := ["one", "other"]) (π := [0, 1]) Fdo_touch hr (by decide) gd (by rfl) (fun _ _ _ _ _ _ ws hl => match ws, hl with | [_, _], _ => rfl) (by decide) (dk_cons (de_of (pv 4)) (dk_cons (de_of (pv 8)) dk_nil))) (da_cons (de_cal Fdo_touch hr (by decide) gd (by rfl) (da_cons (de_of (pv 4)) (da_cons (de_of (pv 4)) da_nil))) da_nil))))))
    (ds_one (ds_if (dt_not (dt_truth (de_cal F_law_like hr (by decide) gd (by rfl) (da_cons (de_of (pv 10)) (da_cons (de_lst (da_cons (de_of (pv 9)) (da_cons (de_of (pv 9)) (da_cons (de_of (pv 9)) (da_cons de_bl da_nil))))) da_nil))))) (ds_one (ds_ret de_bl)) ds_nil)))))))))))
    (ds_one (ds_ret de_bl))))
theorem body_law (B : Blt mg) (F_law_own_bag : Callee P w K mg base 1 "_law_own_bag" s__law_own_bag ps__law_own_bag sp__law_own_bag) (F_law_is_typed_right : Callee P w K mg base 4 "_law_is_typed_right" s__law_is_typed_right ps__law_is_typed_right sp__law_is_typed_right) (F_law_text : Callee P w K mg base 4 "_law_text" s__law_text ps__law_text sp__law_text) (F_law_edit : Callee P w K mg base 5 "_law_edit" s__law_edit ps__law_edit sp__law_edit) (F_law_is_edit_right : Callee P w K mg base 3 "_law_is_edit_right" s__law_is_edit_right ps__law_is_edit_right sp__law_is_edit_right) (F_law_are_errors_right : Callee P w K mg base 3 "_law_are_errors_right" s__law_are_errors_right ps__law_are_errors_right sp__law_are_errors_right) (F_law_are_edits_right : Callee P w K mg base 6 "_law_are_edits_right" s__law_are_edits_right ps__law_are_edits_right sp__law_are_edits_right) (F_law_are_touches_right : Callee P w K mg base 6 "_law_are_touches_right" s__law_are_touches_right ps__law_are_touches_right sp__law_are_touches_right) (F_law_others : Callee P w K mg base 6 "_law_others" s__law_others ps__law_others sp__law_others) (F_law_is_between_right : Callee P w K mg base 3 "_law_is_between_right" s__law_is_between_right ps__law_is_between_right sp__law_is_between_right) (F_law_draw : Callee P w K mg base 1 "_law_draw" s__law_draw ps__law_draw sp__law_draw) (F_law_is_long_right : Callee P w K mg base 4 "_law_is_long_right" s__law_is_long_right ps__law_is_long_right sp__law_is_long_right) (f : Addr) (cdv : Value) (A : Around) (outer : List Env) (s : Shared) (H : Hp) (E : XK) (hr : Room 6 (bodyX P w K mg base N_law "law" s_law f cdv A outer s H E).A) (gd : (bodyX P w K mg base N_law "law" s_law f cdv A outer s H E).A.guards = some []) : DSs (bodyX P w K mg base N_law "law" s_law f cdv A outer s H E) (defBody s_law) t_law :=
  (ds_cons (ds_set (i := 1) sc_law.nd rfl (by first | exact Or.inl rfl | exact Or.inr rfl) (de_cal F_law_own_bag hr (by decide) gd (by rfl) (da_cons (de_of (pv 0)) da_nil)))
    (ds_cons (ds_if (dt_not (dt_truth (de_cal0 F_law_is_typed_right hr (by decide) gd (by rfl)))) (ds_one (ds_ret de_bl)) ds_nil)
    (ds_cons (ds_for PassesOwn.never rfl (di_range1 (by rfl) B.b_range (da_cons de_int da_nil)) (dg_name (i := 2) sc_law.nd rfl (by first | exact Or.inl rfl | exact Or.inr rfl)) (ds_cons (ds_set (i := 3) sc_law.nd rfl (by first | exact Or.inl rfl | exact Or.inr rfl) (de_cal F_law_text hr (by decide) gd (by rfl) (da_cons (de_of (pv 1)) da_nil)))
    (ds_cons (ds_set (i := 4) sc_law.nd rfl (by first | exact Or.inl rfl | exact Or.inr rfl) (de_cal F_law_edit hr (by decide) gd (by rfl) (da_cons (de_of (pv 1)) (da_cons (de_of (pv 3)) da_nil))))
    (ds_cons (ds_if (dt_w (dw_or (dt_not (dt_truth (de_cal F_law_is_edit_right hr (by decide) gd (by rfl) (da_cons (de_of (pv 3)) (da_cons (de_of (pv 4)) da_nil))))) (dw_or1 (dt_not (dt_truth (de_cal F_law_are_errors_right hr (by decide) gd (by rfl) (da_cons (de_of (pv 1)) (da_cons (de_of (pv 3)) (da_cons (de_of (pv 4)) da_nil))))))))) (ds_one (ds_ret de_bl)) ds_nil)
    (ds_cons (ds_if (dt_w (dw_or (dt_not (dt_truth (de_cal F_law_are_edits_right hr (by decide) gd (by rfl) (da_cons (de_of (pv 1)) (da_cons (de_of (pv 3)) da_nil))))) (dw_or1 (dt_not (dt_truth (de_cal F_law_are_touches_right hr (by decide) gd (by rfl) (da_cons (de_of (pv 1)) (da_cons (de_of (pv 3)) da_nil)))))))) (ds_one (ds_ret de_bl)) ds_nil)
    (ds_one (ds_for PassesOwn.never rfl (di_any (de_cal F_law_others hr (by decide) gd (by rfl) (da_cons (de_of (pv 1)) (da_cons (de_of (pv 3)) da_nil)))) (dg_name (i := 5) sc_law.nd rfl (by first | exact Or.inl rfl | exact Or.inr rfl)) (ds_one (ds_if (dt_not (dt_truth (de_cal F_law_is_between_right hr (by decide) gd (by rfl) (da_cons (de_of (pv 1)) (da_cons (de_of (pv 3)) (da_cons (de_of (pv 5)) da_nil)))))) (ds_one (ds_ret de_bl)) ds_nil)))))))))
    (ds_one (ds_ret (de_or (de_cmp op_Gt (de_cal F_law_draw hr (by decide) gd (by rfl) (da_cons (de_of (pv 1)) (da_cons de_int da_nil))) de_int) (de_one (de_cal F_law_is_long_right hr (by decide) gd (by rfl) (da_cons (de_of (pv 1)) da_nil)))))))))

end
theorem len_is_integer : ∀ ds S R, sp_is_integer ds S R → ds.length = 1 := by
  intro ds S R h
  first | (rcases h with ⟨rfl, _⟩; rfl) | (rcases h with ⟨_, rfl, _⟩; rfl) | (rcases h with ⟨_, _, rfl, _⟩; rfl) | (rcases h with ⟨_, _, _, rfl, _⟩; rfl) | (rcases h with ⟨_, _, _, _, rfl, _⟩; rfl) | (rcases h with ⟨_, _, _, _, _, rfl, _⟩; rfl) | (rcases h with ⟨_, _, _, _, _, _, rfl, _⟩; rfl)
theorem len_edit_done : ∀ ds S R, sp_edit_done ds S R → ds.length = 2 := by
  intro ds S R h
  first | (rcases h with ⟨rfl, _⟩; rfl) | (rcases h with ⟨_, rfl, _⟩; rfl) | (rcases h with ⟨_, _, rfl, _⟩; rfl) | (rcases h with ⟨_, _, _, rfl, _⟩; rfl) | (rcases h with ⟨_, _, _, _, rfl, _⟩; rfl) | (rcases h with ⟨_, _, _, _, _, rfl, _⟩; rfl) | (rcases h with ⟨_, _, _, _, _, _, rfl, _⟩; rfl)
theorem len_edit_between : ∀ ds S R, sp_edit_between ds S R → ds.length = 2 := by
  intro ds S R h
  first | (rcases h with ⟨rfl, _⟩; rfl) | (rcases h with ⟨_, rfl, _⟩; rfl) | (rcases h with ⟨_, _, rfl, _⟩; rfl) | (rcases h with ⟨_, _, _, rfl, _⟩; rfl) | (rcases h with ⟨_, _, _, _, rfl, _⟩; rfl) | (rcases h with ⟨_, _, _, _, _, rfl, _⟩; rfl) | (rcases h with ⟨_, _, _, _, _, _, rfl, _⟩; rfl)
theorem len_edit_back : ∀ ds S R, sp_edit_back ds S R → ds.length = 2 := by
  intro ds S R h
  first | (rcases h with ⟨rfl, _⟩; rfl) | (rcases h with ⟨_, rfl, _⟩; rfl) | (rcases h with ⟨_, _, rfl, _⟩; rfl) | (rcases h with ⟨_, _, _, rfl, _⟩; rfl) | (rcases h with ⟨_, _, _, _, rfl, _⟩; rfl) | (rcases h with ⟨_, _, _, _, _, rfl, _⟩; rfl) | (rcases h with ⟨_, _, _, _, _, _, rfl, _⟩; rfl)
theorem len_do_touch : ∀ ds S R, sp_do_touch ds S R → ds.length = 2 := by
  intro ds S R h
  first | (rcases h with ⟨rfl, _⟩; rfl) | (rcases h with ⟨_, rfl, _⟩; rfl) | (rcases h with ⟨_, _, rfl, _⟩; rfl) | (rcases h with ⟨_, _, _, rfl, _⟩; rfl) | (rcases h with ⟨_, _, _, _, rfl, _⟩; rfl) | (rcases h with ⟨_, _, _, _, _, rfl, _⟩; rfl) | (rcases h with ⟨_, _, _, _, _, _, rfl, _⟩; rfl)
theorem len__law_own_bag : ∀ ds S R, sp__law_own_bag ds S R → ds.length = 1 := by
  intro ds S R h
  first | (rcases h with ⟨rfl, _⟩; rfl) | (rcases h with ⟨_, rfl, _⟩; rfl) | (rcases h with ⟨_, _, rfl, _⟩; rfl) | (rcases h with ⟨_, _, _, rfl, _⟩; rfl) | (rcases h with ⟨_, _, _, _, rfl, _⟩; rfl) | (rcases h with ⟨_, _, _, _, _, rfl, _⟩; rfl) | (rcases h with ⟨_, _, _, _, _, _, rfl, _⟩; rfl)
theorem len__law_draw : ∀ ds S R, sp__law_draw ds S R → ds.length = 2 := by
  intro ds S R h
  first | (rcases h with ⟨rfl, _⟩; rfl) | (rcases h with ⟨_, rfl, _⟩; rfl) | (rcases h with ⟨_, _, rfl, _⟩; rfl) | (rcases h with ⟨_, _, _, rfl, _⟩; rfl) | (rcases h with ⟨_, _, _, _, rfl, _⟩; rfl) | (rcases h with ⟨_, _, _, _, _, rfl, _⟩; rfl) | (rcases h with ⟨_, _, _, _, _, _, rfl, _⟩; rfl)
theorem len__law_like : ∀ ds S R, sp__law_like ds S R → ds.length = 2 := by
  intro ds S R h
  first | (rcases h with ⟨rfl, _⟩; rfl) | (rcases h with ⟨_, rfl, _⟩; rfl) | (rcases h with ⟨_, _, rfl, _⟩; rfl) | (rcases h with ⟨_, _, _, rfl, _⟩; rfl) | (rcases h with ⟨_, _, _, _, rfl, _⟩; rfl) | (rcases h with ⟨_, _, _, _, _, rfl, _⟩; rfl) | (rcases h with ⟨_, _, _, _, _, _, rfl, _⟩; rfl)
theorem len__law_edit_due : ∀ ds S R, sp__law_edit_due ds S R → ds.length = 2 := by
  intro ds S R h
  first | (rcases h with ⟨rfl, _⟩; rfl) | (rcases h with ⟨_, rfl, _⟩; rfl) | (rcases h with ⟨_, _, rfl, _⟩; rfl) | (rcases h with ⟨_, _, _, rfl, _⟩; rfl) | (rcases h with ⟨_, _, _, _, rfl, _⟩; rfl) | (rcases h with ⟨_, _, _, _, _, rfl, _⟩; rfl) | (rcases h with ⟨_, _, _, _, _, _, rfl, _⟩; rfl)
theorem len__law_done : ∀ ds S R, sp__law_done ds S R → ds.length = 2 := by
  intro ds S R h
  first | (rcases h with ⟨rfl, _⟩; rfl) | (rcases h with ⟨_, rfl, _⟩; rfl) | (rcases h with ⟨_, _, rfl, _⟩; rfl) | (rcases h with ⟨_, _, _, rfl, _⟩; rfl) | (rcases h with ⟨_, _, _, _, rfl, _⟩; rfl) | (rcases h with ⟨_, _, _, _, _, rfl, _⟩; rfl) | (rcases h with ⟨_, _, _, _, _, _, rfl, _⟩; rfl)
theorem len__law_common : ∀ ds S R, sp__law_common ds S R → ds.length = 3 := by
  intro ds S R h
  first | (rcases h with ⟨rfl, _⟩; rfl) | (rcases h with ⟨_, rfl, _⟩; rfl) | (rcases h with ⟨_, _, rfl, _⟩; rfl) | (rcases h with ⟨_, _, _, rfl, _⟩; rfl) | (rcases h with ⟨_, _, _, _, rfl, _⟩; rfl) | (rcases h with ⟨_, _, _, _, _, rfl, _⟩; rfl) | (rcases h with ⟨_, _, _, _, _, _, rfl, _⟩; rfl)
theorem len__law_is_least : ∀ ds S R, sp__law_is_least ds S R → ds.length = 3 := by
  intro ds S R h
  first | (rcases h with ⟨rfl, _⟩; rfl) | (rcases h with ⟨_, rfl, _⟩; rfl) | (rcases h with ⟨_, _, rfl, _⟩; rfl) | (rcases h with ⟨_, _, _, rfl, _⟩; rfl) | (rcases h with ⟨_, _, _, _, rfl, _⟩; rfl) | (rcases h with ⟨_, _, _, _, _, rfl, _⟩; rfl) | (rcases h with ⟨_, _, _, _, _, _, rfl, _⟩; rfl)
theorem len__law_wrong_edits : ∀ ds S R, sp__law_wrong_edits ds S R → ds.length = 3 := by
  intro ds S R h
  first | (rcases h with ⟨rfl, _⟩; rfl) | (rcases h with ⟨_, rfl, _⟩; rfl) | (rcases h with ⟨_, _, rfl, _⟩; rfl) | (rcases h with ⟨_, _, _, rfl, _⟩; rfl) | (rcases h with ⟨_, _, _, _, rfl, _⟩; rfl) | (rcases h with ⟨_, _, _, _, _, rfl, _⟩; rfl) | (rcases h with ⟨_, _, _, _, _, _, rfl, _⟩; rfl)
theorem len__law_do_touch : ∀ ds S R, sp__law_do_touch ds S R → ds.length = 2 := by
  intro ds S R h
  first | (rcases h with ⟨rfl, _⟩; rfl) | (rcases h with ⟨_, rfl, _⟩; rfl) | (rcases h with ⟨_, _, rfl, _⟩; rfl) | (rcases h with ⟨_, _, _, rfl, _⟩; rfl) | (rcases h with ⟨_, _, _, _, rfl, _⟩; rfl) | (rcases h with ⟨_, _, _, _, _, rfl, _⟩; rfl) | (rcases h with ⟨_, _, _, _, _, _, rfl, _⟩; rfl)
theorem len_edit_error : ∀ ds S R, sp_edit_error ds S R → ds.length = 2 := by
  intro ds S R h
  first | (rcases h with ⟨rfl, _⟩; rfl) | (rcases h with ⟨_, rfl, _⟩; rfl) | (rcases h with ⟨_, _, rfl, _⟩; rfl) | (rcases h with ⟨_, _, _, rfl, _⟩; rfl) | (rcases h with ⟨_, _, _, _, rfl, _⟩; rfl) | (rcases h with ⟨_, _, _, _, _, rfl, _⟩; rfl) | (rcases h with ⟨_, _, _, _, _, _, rfl, _⟩; rfl)
theorem len_edits_done : ∀ ds S R, sp_edits_done ds S R → ds.length = 2 := by
  intro ds S R h
  first | (rcases h with ⟨rfl, _⟩; rfl) | (rcases h with ⟨_, rfl, _⟩; rfl) | (rcases h with ⟨_, _, rfl, _⟩; rfl) | (rcases h with ⟨_, _, _, rfl, _⟩; rfl) | (rcases h with ⟨_, _, _, _, rfl, _⟩; rfl) | (rcases h with ⟨_, _, _, _, _, rfl, _⟩; rfl) | (rcases h with ⟨_, _, _, _, _, _, rfl, _⟩; rfl)
theorem len__law_pick : ∀ ds S R, sp__law_pick ds S R → ds.length = 2 := by
  intro ds S R h
  first | (rcases h with ⟨rfl, _⟩; rfl) | (rcases h with ⟨_, rfl, _⟩; rfl) | (rcases h with ⟨_, _, rfl, _⟩; rfl) | (rcases h with ⟨_, _, _, rfl, _⟩; rfl) | (rcases h with ⟨_, _, _, _, rfl, _⟩; rfl) | (rcases h with ⟨_, _, _, _, _, rfl, _⟩; rfl) | (rcases h with ⟨_, _, _, _, _, _, rfl, _⟩; rfl)
theorem len__law_edits_due : ∀ ds S R, sp__law_edits_due ds S R → ds.length = 2 := by
  intro ds S R h
  first | (rcases h with ⟨rfl, _⟩; rfl) | (rcases h with ⟨_, rfl, _⟩; rfl) | (rcases h with ⟨_, _, rfl, _⟩; rfl) | (rcases h with ⟨_, _, _, rfl, _⟩; rfl) | (rcases h with ⟨_, _, _, _, rfl, _⟩; rfl) | (rcases h with ⟨_, _, _, _, _, rfl, _⟩; rfl) | (rcases h with ⟨_, _, _, _, _, _, rfl, _⟩; rfl)
theorem len__law_between : ∀ ds S R, sp__law_between ds S R → ds.length = 2 := by
  intro ds S R h
  first | (rcases h with ⟨rfl, _⟩; rfl) | (rcases h with ⟨_, rfl, _⟩; rfl) | (rcases h with ⟨_, _, rfl, _⟩; rfl) | (rcases h with ⟨_, _, _, rfl, _⟩; rfl) | (rcases h with ⟨_, _, _, _, rfl, _⟩; rfl) | (rcases h with ⟨_, _, _, _, _, rfl, _⟩; rfl) | (rcases h with ⟨_, _, _, _, _, _, rfl, _⟩; rfl)
theorem len_edits_error : ∀ ds S R, sp_edits_error ds S R → ds.length = 2 := by
  intro ds S R h
  first | (rcases h with ⟨rfl, _⟩; rfl) | (rcases h with ⟨_, rfl, _⟩; rfl) | (rcases h with ⟨_, _, rfl, _⟩; rfl) | (rcases h with ⟨_, _, _, rfl, _⟩; rfl) | (rcases h with ⟨_, _, _, _, rfl, _⟩; rfl) | (rcases h with ⟨_, _, _, _, _, rfl, _⟩; rfl) | (rcases h with ⟨_, _, _, _, _, _, rfl, _⟩; rfl)
theorem len__law_signs : ∀ ds S R, sp__law_signs ds S R → ds.length = 2 := by
  intro ds S R h
  first | (rcases h with ⟨rfl, _⟩; rfl) | (rcases h with ⟨_, rfl, _⟩; rfl) | (rcases h with ⟨_, _, rfl, _⟩; rfl) | (rcases h with ⟨_, _, _, rfl, _⟩; rfl) | (rcases h with ⟨_, _, _, _, rfl, _⟩; rfl) | (rcases h with ⟨_, _, _, _, _, rfl, _⟩; rfl) | (rcases h with ⟨_, _, _, _, _, _, rfl, _⟩; rfl)
theorem len__law_is_edit_right : ∀ ds S R, sp__law_is_edit_right ds S R → ds.length = 2 := by
  intro ds S R h
  first | (rcases h with ⟨rfl, _⟩; rfl) | (rcases h with ⟨_, rfl, _⟩; rfl) | (rcases h with ⟨_, _, rfl, _⟩; rfl) | (rcases h with ⟨_, _, _, rfl, _⟩; rfl) | (rcases h with ⟨_, _, _, _, rfl, _⟩; rfl) | (rcases h with ⟨_, _, _, _, _, rfl, _⟩; rfl) | (rcases h with ⟨_, _, _, _, _, _, rfl, _⟩; rfl)
theorem len__law_is_between_right : ∀ ds S R, sp__law_is_between_right ds S R → ds.length = 3 := by
  intro ds S R h
  first | (rcases h with ⟨rfl, _⟩; rfl) | (rcases h with ⟨_, rfl, _⟩; rfl) | (rcases h with ⟨_, _, rfl, _⟩; rfl) | (rcases h with ⟨_, _, _, rfl, _⟩; rfl) | (rcases h with ⟨_, _, _, _, rfl, _⟩; rfl) | (rcases h with ⟨_, _, _, _, _, rfl, _⟩; rfl) | (rcases h with ⟨_, _, _, _, _, _, rfl, _⟩; rfl)
theorem len__law_are_errors_right : ∀ ds S R, sp__law_are_errors_right ds S R → ds.length = 3 := by
  intro ds S R h
  first | (rcases h with ⟨rfl, _⟩; rfl) | (rcases h with ⟨_, rfl, _⟩; rfl) | (rcases h with ⟨_, _, rfl, _⟩; rfl) | (rcases h with ⟨_, _, _, rfl, _⟩; rfl) | (rcases h with ⟨_, _, _, _, rfl, _⟩; rfl) | (rcases h with ⟨_, _, _, _, _, rfl, _⟩; rfl) | (rcases h with ⟨_, _, _, _, _, _, rfl, _⟩; rfl)
theorem len__law_some_edits : ∀ ds S R, sp__law_some_edits ds S R → ds.length = 3 := by
  intro ds S R h
  first | (rcases h with ⟨rfl, _⟩; rfl) | (rcases h with ⟨_, rfl, _⟩; rfl) | (rcases h with ⟨_, _, rfl, _⟩; rfl) | (rcases h with ⟨_, _, _, rfl, _⟩; rfl) | (rcases h with ⟨_, _, _, _, rfl, _⟩; rfl) | (rcases h with ⟨_, _, _, _, _, rfl, _⟩; rfl) | (rcases h with ⟨_, _, _, _, _, _, rfl, _⟩; rfl)
theorem len__law_text : ∀ ds S R, sp__law_text ds S R → ds.length = 1 := by
  intro ds S R h
  first | (rcases h with ⟨rfl, _⟩; rfl) | (rcases h with ⟨_, rfl, _⟩; rfl) | (rcases h with ⟨_, _, rfl, _⟩; rfl) | (rcases h with ⟨_, _, _, rfl, _⟩; rfl) | (rcases h with ⟨_, _, _, _, rfl, _⟩; rfl) | (rcases h with ⟨_, _, _, _, _, rfl, _⟩; rfl) | (rcases h with ⟨_, _, _, _, _, _, rfl, _⟩; rfl)
theorem len__law_put : ∀ ds S R, sp__law_put ds S R → ds.length = 2 := by
  intro ds S R h
  first | (rcases h with ⟨rfl, _⟩; rfl) | (rcases h with ⟨_, rfl, _⟩; rfl) | (rcases h with ⟨_, _, rfl, _⟩; rfl) | (rcases h with ⟨_, _, _, rfl, _⟩; rfl) | (rcases h with ⟨_, _, _, _, rfl, _⟩; rfl) | (rcases h with ⟨_, _, _, _, _, rfl, _⟩; rfl) | (rcases h with ⟨_, _, _, _, _, _, rfl, _⟩; rfl)
theorem len__law_is_typed_right : ∀ ds S R, sp__law_is_typed_right ds S R → ds.length = 0 := by
  intro ds S R h
  first | (rcases h with ⟨rfl, _⟩; rfl) | (rcases h with ⟨_, rfl, _⟩; rfl) | (rcases h with ⟨_, _, rfl, _⟩; rfl) | (rcases h with ⟨_, _, _, rfl, _⟩; rfl) | (rcases h with ⟨_, _, _, _, rfl, _⟩; rfl) | (rcases h with ⟨_, _, _, _, _, rfl, _⟩; rfl) | (rcases h with ⟨_, _, _, _, _, _, rfl, _⟩; rfl)
theorem len__law_is_long_right : ∀ ds S R, sp__law_is_long_right ds S R → ds.length = 1 := by
  intro ds S R h
  first | (rcases h with ⟨rfl, _⟩; rfl) | (rcases h with ⟨_, rfl, _⟩; rfl) | (rcases h with ⟨_, _, rfl, _⟩; rfl) | (rcases h with ⟨_, _, _, rfl, _⟩; rfl) | (rcases h with ⟨_, _, _, _, rfl, _⟩; rfl) | (rcases h with ⟨_, _, _, _, _, rfl, _⟩; rfl) | (rcases h with ⟨_, _, _, _, _, _, rfl, _⟩; rfl)
theorem len__law_edit : ∀ ds S R, sp__law_edit ds S R → ds.length = 2 := by
  intro ds S R h
  first | (rcases h with ⟨rfl, _⟩; rfl) | (rcases h with ⟨_, rfl, _⟩; rfl) | (rcases h with ⟨_, _, rfl, _⟩; rfl) | (rcases h with ⟨_, _, _, rfl, _⟩; rfl) | (rcases h with ⟨_, _, _, _, rfl, _⟩; rfl) | (rcases h with ⟨_, _, _, _, _, rfl, _⟩; rfl) | (rcases h with ⟨_, _, _, _, _, _, rfl, _⟩; rfl)
theorem len__law_edits : ∀ ds S R, sp__law_edits ds S R → ds.length = 2 := by
  intro ds S R h
  first | (rcases h with ⟨rfl, _⟩; rfl) | (rcases h with ⟨_, rfl, _⟩; rfl) | (rcases h with ⟨_, _, rfl, _⟩; rfl) | (rcases h with ⟨_, _, _, rfl, _⟩; rfl) | (rcases h with ⟨_, _, _, _, rfl, _⟩; rfl) | (rcases h with ⟨_, _, _, _, _, rfl, _⟩; rfl) | (rcases h with ⟨_, _, _, _, _, _, rfl, _⟩; rfl)
theorem len__law_others : ∀ ds S R, sp__law_others ds S R → ds.length = 2 := by
  intro ds S R h
  first | (rcases h with ⟨rfl, _⟩; rfl) | (rcases h with ⟨_, rfl, _⟩; rfl) | (rcases h with ⟨_, _, rfl, _⟩; rfl) | (rcases h with ⟨_, _, _, rfl, _⟩; rfl) | (rcases h with ⟨_, _, _, _, rfl, _⟩; rfl) | (rcases h with ⟨_, _, _, _, _, rfl, _⟩; rfl) | (rcases h with ⟨_, _, _, _, _, _, rfl, _⟩; rfl)
theorem len__law_are_edits_right : ∀ ds S R, sp__law_are_edits_right ds S R → ds.length = 2 := by
  intro ds S R h
  first | (rcases h with ⟨rfl, _⟩; rfl) | (rcases h with ⟨_, rfl, _⟩; rfl) | (rcases h with ⟨_, _, rfl, _⟩; rfl) | (rcases h with ⟨_, _, _, rfl, _⟩; rfl) | (rcases h with ⟨_, _, _, _, rfl, _⟩; rfl) | (rcases h with ⟨_, _, _, _, _, rfl, _⟩; rfl) | (rcases h with ⟨_, _, _, _, _, _, rfl, _⟩; rfl)
theorem len__law_are_touches_right : ∀ ds S R, sp__law_are_touches_right ds S R → ds.length = 2 := by
  intro ds S R h
  first | (rcases h with ⟨rfl, _⟩; rfl) | (rcases h with ⟨_, rfl, _⟩; rfl) | (rcases h with ⟨_, _, rfl, _⟩; rfl) | (rcases h with ⟨_, _, _, rfl, _⟩; rfl) | (rcases h with ⟨_, _, _, _, rfl, _⟩; rfl) | (rcases h with ⟨_, _, _, _, _, rfl, _⟩; rfl) | (rcases h with ⟨_, _, _, _, _, _, rfl, _⟩; rfl)
theorem len_law : ∀ ds S R, sp_law ds S R → ds.length = 1 := by
  intro ds S R h
  first | (rcases h with ⟨rfl, _⟩; rfl) | (rcases h with ⟨_, rfl, _⟩; rfl) | (rcases h with ⟨_, _, rfl, _⟩; rfl) | (rcases h with ⟨_, _, _, rfl, _⟩; rfl) | (rcases h with ⟨_, _, _, _, rfl, _⟩; rfl) | (rcases h with ⟨_, _, _, _, _, rfl, _⟩; rfl) | (rcases h with ⟨_, _, _, _, _, _, rfl, _⟩; rfl)
theorem all_mk {P : Program} {w : World} {K : PySem.W.Frag} {mg : Str → Option Value} {fa : Addr} (hfa : mg "law" = some (.ref fa)) (B : Blt mg) (D_law : DefL K mg "law" s_law "script") (D_is_integer : Def K mg "is_integer" s_is_integer ps_is_integer) (D_edit_done : Def K mg "edit_done" s_edit_done ps_edit_done) (D_edit_between : Def K mg "edit_between" s_edit_between ps_edit_between) (D_edit_back : Def K mg "edit_back" s_edit_back ps_edit_back) (D_do_touch : Def K mg "do_touch" s_do_touch ps_do_touch) (D__law_own_bag : Def K mg "_law_own_bag" s__law_own_bag ps__law_own_bag) (D__law_draw : Def K mg "_law_draw" s__law_draw ps__law_draw) (D__law_like : Def K mg "_law_like" s__law_like ps__law_like) (D__law_edit_due : Def K mg "_law_edit_due" s__law_edit_due ps__law_edit_due) (D__law_done : Def K mg "_law_done" s__law_done ps__law_done) (D__law_common : Def K mg "_law_common" s__law_common ps__law_common) (D__law_is_least : Def K mg "_law_is_least" s__law_is_least ps__law_is_least) (D__law_wrong_edits : Def K mg "_law_wrong_edits" s__law_wrong_edits ps__law_wrong_edits) (D__law_do_touch : Def K mg "_law_do_touch" s__law_do_touch ps__law_do_touch) (D_edit_error : Def K mg "edit_error" s_edit_error ps_edit_error) (D_edits_done : Def K mg "edits_done" s_edits_done ps_edits_done) (D__law_pick : Def K mg "_law_pick" s__law_pick ps__law_pick) (D__law_edits_due : Def K mg "_law_edits_due" s__law_edits_due ps__law_edits_due) (D__law_between : Def K mg "_law_between" s__law_between ps__law_between) (D_edits_error : Def K mg "edits_error" s_edits_error ps_edits_error) (D__law_signs : Def K mg "_law_signs" s__law_signs ps__law_signs) (D__law_is_edit_right : Def K mg "_law_is_edit_right" s__law_is_edit_right ps__law_is_edit_right) (D__law_is_between_right : Def K mg "_law_is_between_right" s__law_is_between_right ps__law_is_between_right) (D__law_are_errors_right : Def K mg "_law_are_errors_right" s__law_are_errors_right ps__law_are_errors_right) (D__law_some_edits : Def K mg "_law_some_edits" s__law_some_edits ps__law_some_edits) (D__law_text : Def K mg "_law_text" s__law_text ps__law_text) (D__law_put : Def K mg "_law_put" s__law_put ps__law_put) (D__law_is_typed_right : Def K mg "_law_is_typed_right" s__law_is_typed_right ps__law_is_typed_right) (D__law_is_long_right : Def K mg "_law_is_long_right" s__law_is_long_right ps__law_is_long_right) (D__law_edit : Def K mg "_law_edit" s__law_edit ps__law_edit) (D__law_edits : Def K mg "_law_edits" s__law_edits ps__law_edits) (D__law_others : Def K mg "_law_others" s__law_others ps__law_others) (D__law_are_edits_right : Def K mg "_law_are_edits_right" s__law_are_edits_right ps__law_are_edits_right) (D__law_are_touches_right : Def K mg "_law_are_touches_right" s__law_are_touches_right ps__law_are_touches_right) :
    ∃ fd : FuncData, (∀ (s : Shared) (u : Value), BindsTo s fd ⟨[u], []⟩ [("script", u)]) ∧ ∀ base : Heap, K.In base → base.Ns mainGlobals mg → FnD P w K mg base 7 fa fd ["script"] sp_law := by
  refine D_law.fin hfa sc_law len_law (fun base f cdv A outer s H E _ _ hr gd => ?_) read_law
  have C_is_integer : Callee P w K mg base 1 "is_integer" s_is_integer ps_is_integer sp_is_integer := D_is_integer.keeps sc_is_integer len_is_integer (fun f cdv A outer s H E hr gd => body_is_integer B  f cdv A outer s H E hr gd) read_is_integer
  have C_edit_done : Callee P w K mg base 1 "edit_done" s_edit_done ps_edit_done sp_edit_done := D_edit_done.keeps sc_edit_done len_edit_done (fun f cdv A outer s H E hr gd => body_edit_done B  f cdv A outer s H E hr gd) read_edit_done
  have C_edit_between : Callee P w K mg base 1 "edit_between" s_edit_between ps_edit_between sp_edit_between := D_edit_between.keeps sc_edit_between len_edit_between (fun f cdv A outer s H E hr gd => body_edit_between B  f cdv A outer s H E hr gd) read_edit_between
  have C_edit_back : Callee P w K mg base 1 "edit_back" s_edit_back ps_edit_back sp_edit_back := D_edit_back.keeps sc_edit_back len_edit_back (fun f cdv A outer s H E hr gd => body_edit_back B  f cdv A outer s H E hr gd) read_edit_back
  have C_do_touch : Callee P w K mg base 1 "do_touch" s_do_touch ps_do_touch sp_do_touch := D_do_touch.keeps sc_do_touch len_do_touch (fun f cdv A outer s H E hr gd => body_do_touch B  f cdv A outer s H E hr gd) read_do_touch
  have C__law_own_bag : Callee P w K mg base 1 "_law_own_bag" s__law_own_bag ps__law_own_bag sp__law_own_bag := D__law_own_bag.keeps sc__law_own_bag len__law_own_bag (fun f cdv A outer s H E hr gd => body__law_own_bag B  f cdv A outer s H E hr gd) read__law_own_bag
  have C__law_draw : Callee P w K mg base 1 "_law_draw" s__law_draw ps__law_draw sp__law_draw := D__law_draw.keeps sc__law_draw len__law_draw (fun f cdv A outer s H E hr gd => body__law_draw B  f cdv A outer s H E hr gd) read__law_draw
  have C__law_like : Callee P w K mg base 1 "_law_like" s__law_like ps__law_like sp__law_like := D__law_like.keeps sc__law_like len__law_like (fun f cdv A outer s H E hr gd => body__law_like B  f cdv A outer s H E hr gd) read__law_like
  have C__law_edit_due : Callee P w K mg base 1 "_law_edit_due" s__law_edit_due ps__law_edit_due sp__law_edit_due := D__law_edit_due.keeps sc__law_edit_due len__law_edit_due (fun f cdv A outer s H E hr gd => body__law_edit_due B  f cdv A outer s H E hr gd) read__law_edit_due
  have C__law_done : Callee P w K mg base 1 "_law_done" s__law_done ps__law_done sp__law_done := D__law_done.keeps sc__law_done len__law_done (fun f cdv A outer s H E hr gd => body__law_done B  f cdv A outer s H E hr gd) read__law_done
  have C__law_common : Callee P w K mg base 1 "_law_common" s__law_common ps__law_common sp__law_common := D__law_common.keeps sc__law_common len__law_common (fun f cdv A outer s H E hr gd => body__law_common B  f cdv A outer s H E hr gd) read__law_common
  have C__law_is_least : Callee P w K mg base 1 "_law_is_least" s__law_is_least ps__law_is_least sp__law_is_least := D__law_is_least.keeps sc__law_is_least len__law_is_least (fun f cdv A outer s H E hr gd => body__law_is_least B  f cdv A outer s H E hr gd) read__law_is_least
  have C__law_wrong_edits : Callee P w K mg base 1 "_law_wrong_edits" s__law_wrong_edits ps__law_wrong_edits sp__law_wrong_edits := D__law_wrong_edits.keeps sc__law_wrong_edits len__law_wrong_edits (fun f cdv A outer s H E hr gd => body__law_wrong_edits B  f cdv A outer s H E hr gd) read__law_wrong_edits
  have C__law_do_touch : Callee P w K mg base 1 "_law_do_touch" s__law_do_touch ps__law_do_touch sp__law_do_touch := D__law_do_touch.keeps sc__law_do_touch len__law_do_touch (fun f cdv A outer s H E hr gd => body__law_do_touch B  f cdv A outer s H E hr gd) read__law_do_touch
  have C_edit_error : Callee P w K mg base 2 "edit_error" s_edit_error ps_edit_error sp_edit_error := D_edit_error.keeps sc_edit_error len_edit_error (fun f cdv A outer s H E hr gd => body_edit_error B C_is_integer f cdv A outer s H E hr gd) read_edit_error
  have C_edits_done : Callee P w K mg base 2 "edits_done" s_edits_done ps_edits_done sp_edits_done := D_edits_done.keeps sc_edits_done len_edits_done (fun f cdv A outer s H E hr gd => body_edits_done B C_edit_done f cdv A outer s H E hr gd) read_edits_done
  have C__law_pick : Callee P w K mg base 2 "_law_pick" s__law_pick ps__law_pick sp__law_pick := D__law_pick.keeps sc__law_pick len__law_pick (fun f cdv A outer s H E hr gd => body__law_pick B C__law_draw f cdv A outer s H E hr gd) read__law_pick
  have C__law_edits_due : Callee P w K mg base 2 "_law_edits_due" s__law_edits_due ps__law_edits_due sp__law_edits_due := D__law_edits_due.keeps sc__law_edits_due len__law_edits_due (fun f cdv A outer s H E hr gd => body__law_edits_due B C__law_edit_due f cdv A outer s H E hr gd) read__law_edits_due
  have C__law_between : Callee P w K mg base 2 "_law_between" s__law_between ps__law_between sp__law_between := D__law_between.keeps sc__law_between len__law_between (fun f cdv A outer s H E hr gd => body__law_between B C__law_common f cdv A outer s H E hr gd) read__law_between
  have C_edits_error : Callee P w K mg base 3 "edits_error" s_edits_error ps_edits_error sp_edits_error := D_edits_error.keeps sc_edits_error len_edits_error (fun f cdv A outer s H E hr gd => body_edits_error B C_edit_error f cdv A outer s H E hr gd) read_edits_error
  have C__law_signs : Callee P w K mg base 3 "_law_signs" s__law_signs ps__law_signs sp__law_signs := D__law_signs.keeps sc__law_signs len__law_signs (fun f cdv A outer s H E hr gd => body__law_signs B C__law_pick C__law_draw f cdv A outer s H E hr gd) read__law_signs
  have C__law_is_edit_right : Callee P w K mg base 3 "_law_is_edit_right" s__law_is_edit_right ps__law_is_edit_right sp__law_is_edit_right := D__law_is_edit_right.keeps sc__law_is_edit_right len__law_is_edit_right (fun f cdv A outer s H E hr gd => body__law_is_edit_right B C__law_done C_edit_back C_edit_done C_edit_error C__law_like f cdv A outer s H E hr gd) read__law_is_edit_right
  have C__law_is_between_right : Callee P w K mg base 3 "_law_is_between_right" s__law_is_between_right ps__law_is_between_right sp__law_is_between_right := D__law_is_between_right.keeps sc__law_is_between_right len__law_is_between_right (fun f cdv A outer s H E hr gd => body__law_is_between_right B C__law_between C_edit_done C_edit_between C__law_like C__law_is_least f cdv A outer s H E hr gd) read__law_is_between_right
  have C__law_are_errors_right : Callee P w K mg base 3 "_law_are_errors_right" s__law_are_errors_right ps__law_are_errors_right sp__law_are_errors_right := D__law_are_errors_right.keeps sc__law_are_errors_right len__law_are_errors_right (fun f cdv A outer s H E hr gd => body__law_are_errors_right B C__law_pick C__law_wrong_edits C__law_edit_due C_edit_error C__law_like f cdv A outer s H E hr gd) read__law_are_errors_right
  have C__law_some_edits : Callee P w K mg base 3 "_law_some_edits" s__law_some_edits ps__law_some_edits sp__law_some_edits := D__law_some_edits.keeps sc__law_some_edits len__law_some_edits (fun f cdv A outer s H E hr gd => body__law_some_edits B C__law_pick C__law_draw C__law_wrong_edits f cdv A outer s H E hr gd) read__law_some_edits
  have C__law_text : Callee P w K mg base 4 "_law_text" s__law_text ps__law_text sp__law_text := D__law_text.keeps sc__law_text len__law_text (fun f cdv A outer s H E hr gd => body__law_text B C__law_signs C__law_pick C__law_draw f cdv A outer s H E hr gd) read__law_text
  have C__law_put : Callee P w K mg base 4 "_law_put" s__law_put ps__law_put sp__law_put := D__law_put.keeps sc__law_put len__law_put (fun f cdv A outer s H E hr gd => body__law_put B C__law_draw C__law_pick C__law_signs f cdv A outer s H E hr gd) read__law_put
  have C__law_is_typed_right : Callee P w K mg base 4 "_law_is_typed_right" s__law_is_typed_right ps__law_is_typed_right sp__law_is_typed_right := D__law_is_typed_right.keeps sc__law_is_typed_right len__law_is_typed_right (fun f cdv A outer s H E hr gd => body__law_is_typed_right B C_edit_between C_edit_back C_edit_done C_edits_done C_edits_error C_do_touch C_edit_error C__law_like f cdv A outer s H E hr gd) read__law_is_typed_right
  have C__law_is_long_right : Callee P w K mg base 4 "_law_is_long_right" s__law_is_long_right ps__law_is_long_right sp__law_is_long_right := D__law_is_long_right.keeps sc__law_is_long_right len__law_is_long_right (fun f cdv A outer s H E hr gd => body__law_is_long_right B C__law_signs C__law_draw C__law_pick C__law_is_edit_right C__law_like C__law_done C_edits_done C_edits_error C_edit_error C__law_between C_edit_between f cdv A outer s H E hr gd) read__law_is_long_right
  have C__law_edit : Callee P w K mg base 5 "_law_edit" s__law_edit ps__law_edit sp__law_edit := D__law_edit.keeps sc__law_edit len__law_edit (fun f cdv A outer s H E hr gd => body__law_edit B C__law_put C__law_draw C__law_pick f cdv A outer s H E hr gd) read__law_edit
  have C__law_edits : Callee P w K mg base 5 "_law_edits" s__law_edits ps__law_edits sp__law_edits := D__law_edits.keeps sc__law_edits len__law_edits (fun f cdv A outer s H E hr gd => body__law_edits B C__law_pick C__law_draw C__law_put f cdv A outer s H E hr gd) read__law_edits
  have C__law_others : Callee P w K mg base 6 "_law_others" s__law_others ps__law_others sp__law_others := D__law_others.keeps sc__law_others len__law_others (fun f cdv A outer s H E hr gd => body__law_others B C__law_draw C__law_text C__law_done C__law_edits C__law_edit C__law_pick f cdv A outer s H E hr gd) read__law_others
  have C__law_are_edits_right : Callee P w K mg base 6 "_law_are_edits_right" s__law_are_edits_right ps__law_are_edits_right sp__law_are_edits_right := D__law_are_edits_right.keeps sc__law_are_edits_right len__law_are_edits_right (fun f cdv A outer s H E hr gd => body__law_are_edits_right B C__law_edits C__law_done C_edits_error C_edits_done C__law_like C__law_pick C__law_some_edits C__law_edits_due f cdv A outer s H E hr gd) read__law_are_edits_right
  have C__law_are_touches_right : Callee P w K mg base 6 "_law_are_touches_right" s__law_are_touches_right ps__law_are_touches_right sp__law_are_touches_right := D__law_are_touches_right.keeps sc__law_are_touches_right len__law_are_touches_right (fun f cdv A outer s H E hr gd => body__law_are_touches_right B C__law_edit C__law_pick C__law_do_touch C_do_touch C__law_like f cdv A outer s H E hr gd) read__law_are_touches_right
  exact body_law B C__law_own_bag C__law_is_typed_right C__law_text C__law_edit C__law_is_edit_right C__law_are_errors_right C__law_are_edits_right C__law_are_touches_right C__law_others C__law_is_between_right C__law_draw C__law_is_long_right f cdv A outer s H E hr gd
end K29
open PySem PySem.W PyProof.Rows
set_option maxRecDepth 100000 in
set_option maxHeartbeats 0 in
theorem PySem.Challenge.cw_mendsagree_k29_whole_edits_of_texts_holds : PySem.Challenge.rw_mendsagree_k29_whole_edits_of_texts.Holds := by
  w_on; o_law; k_head; (case hw => w_witness2)
  k_fill
  refine DL.walkG (l := PySem.Challenge.rw_mendsagree_k29_whole_edits_of_texts) (n := 63) (k := 7) (x := "script") (sp := K29.sp_law) rfl (by decide) rfl ⟨rfl, by decide, by decide⟩ (fun w h Y => PySem.W.kIn_of Y) ?F (fun a ns hl => ⟨a, ns, rfl, DL.scrS_at, by first | exact Nat.le_trans hl (by decide) | omega, fun _ => rfl⟩)
  case F =>
    intro w mg fa h KX G hmg
    refine' K29.all_mk hmg ?B ?D_law ?D_is_integer ?D_edit_done ?D_edit_between ?D_edit_back ?D_do_touch ?D__law_own_bag ?D__law_draw ?D__law_like ?D__law_edit_due ?D__law_done ?D__law_common ?D__law_is_least ?D__law_wrong_edits ?D__law_do_touch ?D_edit_error ?D_edits_done ?D__law_pick ?D__law_edits_due ?D__law_between ?D_edits_error ?D__law_signs ?D__law_is_edit_right ?D__law_is_between_right ?D__law_are_errors_right ?D__law_some_edits ?D__law_text ?D__law_put ?D__law_is_typed_right ?D__law_is_long_right ?D__law_edit ?D__law_edits ?D__law_others ?D__law_are_edits_right ?D__law_are_touches_right
    (case B => exact ⟨PySem.W.mg_none_of KX G (by k_is), PySem.W.mg_none_of KX G (by k_is), PySem.W.mg_none_of KX G (by k_is), PySem.W.mg_none_of KX G (by k_is), PySem.W.mg_none_of KX G (by k_is), PySem.W.mg_none_of KX G (by k_is), PySem.W.mg_none_of KX G (by k_is), PySem.W.mg_none_of KX G (by k_is), PySem.W.mg_none_of KX G (by k_is), PySem.W.mg_none_of KX G (by k_is), PySem.W.mg_none_of KX G (by k_is), PySem.W.mg_none_of KX G (by k_is), PySem.W.mg_none_of KX G (by k_is)⟩)
    (case D_law => (refine' DL.DefL.mk' KX G (fun _ _ _ _ _ _ _ => rfl) ?a ?l ?c ?k; (case a => k_is); (case l => k_is); (case c => k_is); (case k => k_is)))
    (case D_is_integer => (refine' DL.Def.mk' KX G (fun _ _ _ _ _ _ us hl => match us, hl with | [_], _ => rfl) ?a ?l ?c ?k; (case a => k_is); (case l => k_is); (case c => k_is); (case k => k_is)))
    (case D_edit_done => (refine' DL.Def.mk' KX G (fun _ _ _ _ _ _ us hl => match us, hl with | [_, _], _ => rfl) ?a ?l ?c ?k; (case a => k_is); (case l => k_is); (case c => k_is); (case k => k_is)))
    (case D_edit_between => (refine' DL.Def.mk' KX G (fun _ _ _ _ _ _ us hl => match us, hl with | [_, _], _ => rfl) ?a ?l ?c ?k; (case a => k_is); (case l => k_is); (case c => k_is); (case k => k_is)))
    (case D_edit_back => (refine' DL.Def.mk' KX G (fun _ _ _ _ _ _ us hl => match us, hl with | [_, _], _ => rfl) ?a ?l ?c ?k; (case a => k_is); (case l => k_is); (case c => k_is); (case k => k_is)))
    (case D_do_touch => (refine' DL.Def.mk' KX G (fun _ _ _ _ _ _ us hl => match us, hl with | [_, _], _ => rfl) ?a ?l ?c ?k; (case a => k_is); (case l => k_is); (case c => k_is); (case k => k_is)))
    (case D__law_own_bag => (refine' DL.Def.mk' KX G (fun _ _ _ _ _ _ us hl => match us, hl with | [_], _ => rfl) ?a ?l ?c ?k; (case a => k_is); (case l => k_is); (case c => k_is); (case k => k_is)))
    (case D__law_draw => (refine' DL.Def.mk' KX G (fun _ _ _ _ _ _ us hl => match us, hl with | [_, _], _ => rfl) ?a ?l ?c ?k; (case a => k_is); (case l => k_is); (case c => k_is); (case k => k_is)))
    (case D__law_like => (refine' DL.Def.mk' KX G (fun _ _ _ _ _ _ us hl => match us, hl with | [_, _], _ => rfl) ?a ?l ?c ?k; (case a => k_is); (case l => k_is); (case c => k_is); (case k => k_is)))
    (case D__law_edit_due => (refine' DL.Def.mk' KX G (fun _ _ _ _ _ _ us hl => match us, hl with | [_, _], _ => rfl) ?a ?l ?c ?k; (case a => k_is); (case l => k_is); (case c => k_is); (case k => k_is)))
    (case D__law_done => (refine' DL.Def.mk' KX G (fun _ _ _ _ _ _ us hl => match us, hl with | [_, _], _ => rfl) ?a ?l ?c ?k; (case a => k_is); (case l => k_is); (case c => k_is); (case k => k_is)))
    (case D__law_common => (refine' DL.Def.mk' KX G (fun _ _ _ _ _ _ us hl => match us, hl with | [_, _, _], _ => rfl) ?a ?l ?c ?k; (case a => k_is); (case l => k_is); (case c => k_is); (case k => k_is)))
    (case D__law_is_least => (refine' DL.Def.mk' KX G (fun _ _ _ _ _ _ us hl => match us, hl with | [_, _, _], _ => rfl) ?a ?l ?c ?k; (case a => k_is); (case l => k_is); (case c => k_is); (case k => k_is)))
    (case D__law_wrong_edits => (refine' DL.Def.mk' KX G (fun _ _ _ _ _ _ us hl => match us, hl with | [_, _, _], _ => rfl) ?a ?l ?c ?k; (case a => k_is); (case l => k_is); (case c => k_is); (case k => k_is)))
    (case D__law_do_touch => (refine' DL.Def.mk' KX G (fun _ _ _ _ _ _ us hl => match us, hl with | [_, _], _ => rfl) ?a ?l ?c ?k; (case a => k_is); (case l => k_is); (case c => k_is); (case k => k_is)))
    (case D_edit_error => (refine' DL.Def.mk' KX G (fun _ _ _ _ _ _ us hl => match us, hl with | [_, _], _ => rfl) ?a ?l ?c ?k; (case a => k_is); (case l => k_is); (case c => k_is); (case k => k_is)))
    (case D_edits_done => (refine' DL.Def.mk' KX G (fun _ _ _ _ _ _ us hl => match us, hl with | [_, _], _ => rfl) ?a ?l ?c ?k; (case a => k_is); (case l => k_is); (case c => k_is); (case k => k_is)))
    (case D__law_pick => (refine' DL.Def.mk' KX G (fun _ _ _ _ _ _ us hl => match us, hl with | [_, _], _ => rfl) ?a ?l ?c ?k; (case a => k_is); (case l => k_is); (case c => k_is); (case k => k_is)))
    (case D__law_edits_due => (refine' DL.Def.mk' KX G (fun _ _ _ _ _ _ us hl => match us, hl with | [_, _], _ => rfl) ?a ?l ?c ?k; (case a => k_is); (case l => k_is); (case c => k_is); (case k => k_is)))
    (case D__law_between => (refine' DL.Def.mk' KX G (fun _ _ _ _ _ _ us hl => match us, hl with | [_, _], _ => rfl) ?a ?l ?c ?k; (case a => k_is); (case l => k_is); (case c => k_is); (case k => k_is)))
    (case D_edits_error => (refine' DL.Def.mk' KX G (fun _ _ _ _ _ _ us hl => match us, hl with | [_, _], _ => rfl) ?a ?l ?c ?k; (case a => k_is); (case l => k_is); (case c => k_is); (case k => k_is)))
    (case D__law_signs => (refine' DL.Def.mk' KX G (fun _ _ _ _ _ _ us hl => match us, hl with | [_, _], _ => rfl) ?a ?l ?c ?k; (case a => k_is); (case l => k_is); (case c => k_is); (case k => k_is)))
    (case D__law_is_edit_right => (refine' DL.Def.mk' KX G (fun _ _ _ _ _ _ us hl => match us, hl with | [_, _], _ => rfl) ?a ?l ?c ?k; (case a => k_is); (case l => k_is); (case c => k_is); (case k => k_is)))
    (case D__law_is_between_right => (refine' DL.Def.mk' KX G (fun _ _ _ _ _ _ us hl => match us, hl with | [_, _, _], _ => rfl) ?a ?l ?c ?k; (case a => k_is); (case l => k_is); (case c => k_is); (case k => k_is)))
    (case D__law_are_errors_right => (refine' DL.Def.mk' KX G (fun _ _ _ _ _ _ us hl => match us, hl with | [_, _, _], _ => rfl) ?a ?l ?c ?k; (case a => k_is); (case l => k_is); (case c => k_is); (case k => k_is)))
    (case D__law_some_edits => (refine' DL.Def.mk' KX G (fun _ _ _ _ _ _ us hl => match us, hl with | [_, _, _], _ => rfl) ?a ?l ?c ?k; (case a => k_is); (case l => k_is); (case c => k_is); (case k => k_is)))
    (case D__law_text => (refine' DL.Def.mk' KX G (fun _ _ _ _ _ _ us hl => match us, hl with | [_], _ => rfl) ?a ?l ?c ?k; (case a => k_is); (case l => k_is); (case c => k_is); (case k => k_is)))
    (case D__law_put => (refine' DL.Def.mk' KX G (fun _ _ _ _ _ _ us hl => match us, hl with | [_, _], _ => rfl) ?a ?l ?c ?k; (case a => k_is); (case l => k_is); (case c => k_is); (case k => k_is)))
    (case D__law_is_typed_right => (refine' DL.Def.mk' KX G (fun _ _ _ _ _ _ us hl => match us, hl with | [], _ => rfl) ?a ?l ?c ?k; (case a => k_is); (case l => k_is); (case c => k_is); (case k => k_is)))
    (case D__law_is_long_right => (refine' DL.Def.mk' KX G (fun _ _ _ _ _ _ us hl => match us, hl with | [_], _ => rfl) ?a ?l ?c ?k; (case a => k_is); (case l => k_is); (case c => k_is); (case k => k_is)))
    (case D__law_edit => (refine' DL.Def.mk' KX G (fun _ _ _ _ _ _ us hl => match us, hl with | [_, _], _ => rfl) ?a ?l ?c ?k; (case a => k_is); (case l => k_is); (case c => k_is); (case k => k_is)))
    (case D__law_edits => (refine' DL.Def.mk' KX G (fun _ _ _ _ _ _ us hl => match us, hl with | [_, _], _ => rfl) ?a ?l ?c ?k; (case a => k_is); (case l => k_is); (case c => k_is); (case k => k_is)))
    (case D__law_others => (refine' DL.Def.mk' KX G (fun _ _ _ _ _ _ us hl => match us, hl with | [_, _], _ => rfl) ?a ?l ?c ?k; (case a => k_is); (case l => k_is); (case c => k_is); (case k => k_is)))
    (case D__law_are_edits_right => (refine' DL.Def.mk' KX G (fun _ _ _ _ _ _ us hl => match us, hl with | [_, _], _ => rfl) ?a ?l ?c ?k; (case a => k_is); (case l => k_is); (case c => k_is); (case k => k_is)))
    (case D__law_are_touches_right => (refine' DL.Def.mk' KX G (fun _ _ _ _ _ _ us hl => match us, hl with | [_, _], _ => rfl) ?a ?l ?c ?k; (case a => k_is); (case l => k_is); (case c => k_is); (case k => k_is)))
